/- Part 4 of the proof; the last part says what is proved. -/
import Derived.Test.YtonoegleildfnaaGreatShown3
section
open Go Go.Abs Go.Proofs Go.Argus
namespace Go.Abs
theorem RW{P:Program}{Y:YSpec}{rf:Bool}{Q:Exit->St->Prop}{st:St}{b:Code}[cR Y](h:∃ st',Ghost P st st'/\AW P Y rf b Q st'):AW P Y rf (.seq .skip b) Q st:=by
 obtain⟨st',h1,h2⟩:=h;exact⟨st',h1,h2⟩
end Go.Abs
namespace Go.Argus
def aM(f:aC)(beh ahd:List (List Int))(c:D):List D:=[S f.name,B f.iter,I f.args,U8 f.result,ik f.aL,ik f.cv,mE f.signals,dM f.blocks,bR beh,bR ahd,c]
theorem DI{f:aC}{beh ahd:List (List Int)}{c:D}(hc:Tr c):∀ a∈aM f beh ahd c,Tr a:=.cons (.s _) (.cons (.s _) (.cons (.s _) (.cons (.s _) (.cons (o3 _) (.cons (o3 _) (.cons (vN _) (.cons (DJ _) (.cons (yc _) (.cons (yc _) (.cons hc .nil))))))))))
theorem tN{f:aC}{beh ahd:List (List Int)}{c:D}(hc:Tr c):Tr (.pt (aM f beh ahd c)):=.pt (DI hc)
@[simp] theorem aeu (f : aC) (beh ahd : List (List Int)) (c : D) : (aM f beh ahd c).length = 11 := rfl
def zm(x:ca):List bN:=x.ins.takeWhile fC
def gM(l:List Int)(x:Int):Bool:=l.any fun y=>x==y
theorem o4{l:List Int}{x:Int}:gM l x=true↔x∈l:=by simp[gM]
def WA(A:List Int)(a:Int)(x:ca):List Int:=(zm x).map fun y=>y.args.getD (j3 (fun y=>a==y) A).toNat 0
def abd(b:Int)(l:List Int):Nat:=l.countP fun y=>y==b
def WB(x:End)(b:Int):Bool:=if((abd b (gg x):Int)==1)=true then x.to==b else false
def A'(x:End)(b:Int):Int:=if WB x b=true then fL x else -1
def abe(y:ca)(r:Int):Bool:=(zm y).any fun z=>z.to==r
def k5(n:Nat)(b:Int):Bool:=if decide (0<=b)=true then decide (b<(n:Int)) else false
theorem xP{n:Nat}{b:Int}:k5 n b=true↔0<=b/\b<n:=by unfold k5;split<;>simp_all;omega
end Go.Argus
namespace Go.Proofs.Tryz.K
set_option maxRecDepth 10000
theorem Gu{l:List Int}{v:Int}:PCall prog 110 [ao l,I v] (I (j3 (fun y=>v==y) l)):=by
 refine mA FH.he (.cons (cH _) (.cons (.s _) .nil)) fun C=>?_;have hlen:=(C (ao l) oS).sl.1;unfold maxLen at hlen;refine bd FH (.cons (cH _) (.cons (.s _) .nil)) (Tr.s _) ?_;rw[Yi];refine ws ?_;refine SS ?_;refine aa (aB (ax ?_));refine av ?_
 refine aa (cN (fun s=>Ghost prog s ⟨aw [],fun _=>none,0⟩/\∀ (j:Nat) y,l[j]? =some y->(v==y)=false) (cG (α:=Nat) (fun k=>⟨aw [(0,ao l),(1,I v),(7,I l.length),(8,I k)],fun _=>none,0⟩)
  (fun k=>k<=l.length/\∀ j y,j<k->l[j]? =some y->(v==y)=false) (fun k=>l.length - k) 0 (aq eH) ⟨oG,fun j y hj=>by omega⟩ ?_) ?_)
 .rintro k ⟨hk,hinv⟩;refine SS ?_;refine aa ⟨_,rfl,fun h=>?_,fun h=>?_⟩
  .have af:k<l.length:=by simpa using h
   have hx:l[k]? =some l[k]:=by simp[af]
   generalize l[k]=x at hx;refine ws ?_;refine ab ?_;refine er ?_;refine bC ?_;refine aa (aD rfl (fun hp=>?_) fun hp=>?_)
   .refine ws ?_;refine ab ?_;refine aa (bq (cz (bl (az rfl ?_))));rw[xS hx hp hinv];rfl
   .refine cI ?_;refine ab ?_;refine aa (aJ (k+1) (aq eH) ⟨oG,fun j y hj hy=>?_⟩ oG);by_cases e:j=k
    .subst e;rw[hx] at hy;cases hy;exact hp
    .exact hinv j y oG hy
  .have M:¬ k<l.length:=by simpa using h
   exact⟨.forget _ _ _ _ fun _=>.inr rfl,fun j y hy=>hinv j y (by have:=(bj.1 hy).1;omega) hy⟩
 .rintro s ⟨hg,J⟩;refine⟨_,hg,ai ?_⟩;refine SS ?_;refine aa (az rfl ?_);rw[xT J];rfl
theorem ij{l:List Int}{v:Int}:PCall prog 54 [ao l,I v] (B (gM l v)):=by
 have Gu:=Gu (l:=l) (v:=v);refine bd Pu (.cons (cH _) (.cons (.s _) .nil)) (Tr.s _) ?_;rw[abf];refine ws ?_;refine SS ?_;refine er ?_;refine ab ?_;refine cl Gu ?_;refine ab ?_;refine aa (az (d:=.s (.bool _)) rfl ?_);rw[gM, <- xZ]
section
variable{f:aC}{beh ahd:List (List Int)}{c:D}(hc:Tr c)(dX:c.one=true)
include hc dX
theorem lD{b:Int}:PCall prog 69 [.pt (aM f beh ahd c),I b] (B (k5 f.blocks.length b)):=by
 have _:=dX;refine bd Pv (.cons (tN hc) (.cons (.s _) .nil)) (Tr.s _) ?_;rw[abg];refine ws ?_;refine SS ?_;refine er ?_;refine aN ?_;refine aI ?_;refine aa (az (d:=.s (.bool _)) rfl ?_);simp[k5]
end
section
variable{f:aC}{beh ahd:List (List Int)}{c:D}(hc:Tr c)(dX:c.one=true)
include hc dX
end
end Go.Proofs.Tryz.K
namespace Go.Argus
def sA(l:List bN):List (List D):=(List.range l.length).map fun i=>[I ((l.length - 1 - i:Nat):Int),.agg (b7 (l.getD (l.length - 1 - i) qj))]
@[simp] theorem Ty (l : List bN) : (sA l).length = l.length := by simp [sA]
theorem Tz{l:List bN}{i:Nat}{x:bN}(hi:i<l.length)(hx:l[l.length - 1 - i]? =some x):(sA l)[i]? =some [I ((l.length - 1 - i:Nat):Int),.agg (b7 x)]:=by
 unfold sA;rw[List.getElem?_map,List.getElem?_range hi];simp[aV,hx]
def ah(beh:List (List Int))(b:Nat):List Int:=beh.getD b []
theorem nC{beh:List (List Int)}{b:Nat}(h:b<beh.length):beh[b]? =some (ah beh b):=by
 unfold ah;rw[aV,aK h];rfl
theorem Jl(beh:Nat->List Int)(w:Int)(k:Nat)(s:List Bool×List Int)(c:Int)(l:List Int):
 cJ beh w k s (c::l)=cJ beh w k (if sB s.1 c=false/\c≠w then cW beh w k s c.toNat else s) l:=rfl
theorem Bo{beh:Nat->List Int}{w:Int}:∀ (k:Nat),(∀ s b,(cW beh w k s b).1.length=s.1.length/\(cW beh w k s b).1.count false<=s.1.count false)/\
 (∀ l s,(cJ beh w k s l).1.length=s.1.length/\(cJ beh w k s l).1.count false<=s.1.count false):=by
 have key:∀ k,(∀ s b,(cW beh w k s b).1.length=s.1.length/\(cW beh w k s b).1.count false<=s.1.count false)->
  (∀ l s,(cJ beh w k s l).1.length=s.1.length/\(cJ beh w k s l).1.count false<=s.1.count false):=fun k h l=>by
  induction l with
  |nil=>exact fun s=>⟨rfl,aU _⟩
  |cons c l ih=>
   intro s;rw[Jl];split
   .obtain⟨a1,a2⟩:=ih (cW beh w k s c.toNat);obtain⟨b1,b2⟩:=h s c.toNat;exact⟨a1.trans b1,Nat.le_trans a2 b2⟩
   .exact ih s
 intro k
 induction k with
 |zero=>exact⟨fun s b=>⟨rfl,aU _⟩,key 0 fun s b=>⟨rfl,aU _⟩⟩
 |succ k ih=>
  have h:∀ s b,(cW beh w (k+1) s b).1.length=s.1.length/\(cW beh w (k+1) s b).1.count false<=s.1.count false:=fun s b=>by
   rw[pV];obtain⟨a1,a2⟩:=ih.2 (beh b) (s.1.set b true,s.2);refine⟨a1.trans oS,Nat.le_trans a2 De⟩
  exact⟨h,key (k+1) h⟩
theorem WC{beh:Nat->List Int}{w:Int}{k:Nat}{s:List Bool×List Int}{b:Nat}:(cW beh w (k+1) s b).2≠[]:=by
 rw[pV];simp
theorem abj{l c:List Int}{n k:Nat}(hl:l.length=n)(hc:c.length=n)(h:∀ p,p<n->c.getD p 0=if p<k\/n<=p+k then l.getD (n - 1 - p) 0 else l.getD p 0)(hk:n<=2*k+1):c=l.reverse:=by
 apply List.ext_getElem (by simp[hl,hc]);intro p h1 h2;rw[List.getElem_reverse];have hp:=h p oG;rw[show c.getD p 0=c[p] by simp[aV,aK h1]] at hp;rw[hp];have e:∀ (i j:Nat) (h:i=j) (hj:j<l.length),l.getD i 0=l[j]:=fun i j h hj=>by subst h;simp[aV,aK hj]
 split
 .exact e _ _ oG _
 .exact e _ _ oG _
theorem KG{beh:Nat->List Int}{w:Int}{n:Nat}(hb:∀ b,∀ c∈beh b,0<=c/\c.toNat<n):∀ (k:Nat),(∀ (s:List Bool×List Int) b,s.1.length=n->b<n->s.1.getD b false=false->(cW beh w k s b).2.length+(cW beh w k s b).1.count false<=s.2.length+s.1.count false)/\
 (∀ l,(∀ c∈l,0<=c/\c.toNat<n)->∀ s:List Bool×List Int,s.1.length=n->(cJ beh w k s l).2.length+(cJ beh w k s l).1.count false<=s.2.length+s.1.count false):=by
 have key:∀ k,(∀ (s:List Bool×List Int) b,s.1.length=n->b<n->s.1.getD b false=false->(cW beh w k s b).2.length+(cW beh w k s b).1.count false<=s.2.length+s.1.count false)->
  (∀ l,(∀ c∈l,0<=c/\c.toNat<n)->∀ s:List Bool×List Int,s.1.length=n->(cJ beh w k s l).2.length+(cJ beh w k s l).1.count false<=s.2.length+s.1.count false):=fun k h l=>by
  induction l with
  |nil=>exact fun _ s _=>aU _
  |cons c l ih=>
   intro hl s hs;have hc:=hl c oS;rw[Jl];split
   .rename_i C;have a:=ih (fun c h=>hl c (by simp[h])) (cW beh w k s c.toNat) (((Bo k).1 s c.toNat).1.trans hs);have b:=h s c.toNat hs hc.2 C.1;omega
   .exact ih (fun c h=>hl c (by simp[h])) s hs
 intro k
 induction k with
 |zero=>exact⟨fun s b _ _ _=>aU _,key 0 fun s b _ _ _=>aU _⟩
 |succ k ih=>
  have h:∀ (s:List Bool×List Int) b,s.1.length=n->b<n->s.1.getD b false=false->(cW beh w (k+1) s b).2.length+(cW beh w (k+1) s b).1.count false<=s.2.length+s.1.count false:=fun s b hs M J=>by
   rw[pV];have a:=ih.2 (beh b) (hb b) (s.1.set b true,s.2) (by simpa using hs);have b:=tJ (tL J oG);simp only[List.length_append,List.length_singleton] at a ⊢;omega
  exact⟨h,key (k+1) h⟩
end Go.Argus
namespace Go.Proofs.Tryz.K
set_option maxRecDepth 10000
section
variable{f:aC}{beh ahd:List (List Int)}{c:D}(hc:Tr c)(dX:c.one=true)
include hc dX
end
theorem abh{l:List bN}(hlen:l.length<=100000):SeqA prog 176 [] [.pt [jj l]] (sA l):=by
 refine EM mixed NF kr fun L J Stop m nx hI X h0=>?_;rw[Yj];refine ax ?_;refine aI ?_
 refine aa (lk (α:=Nat×Mem×Nat) (fun k=>⟨aw [(0,.fn (.yield L) [] []),(1,.pt [jj l]),(3,I ((l.length:Int) - 1 - k.1))],k.2.1,k.2.2⟩)
  (fun k=>k.1<=l.length/\J k.1 k.2.1 k.2.2) (fun k=>l.length - k.1) (0,m,nx) (aq ⟨rfl,rfl,congrArg (fun z:Int=>I z) (show(l.length:Int) - 1=(l.length:Int) - 1 - ((0:Nat):Int) by omega),trivial⟩) ⟨oG,h0⟩ ?_)
 rintro⟨k,m,nx⟩ ⟨hk,C⟩;dsimp only at hk C ⊢;refine ab ?_;refine aa ⟨_,rfl,fun h=>?_,fun h=>?_⟩
 .have af:k<l.length:=by have h:(0:Int)<=(l.length:Int) - 1 - k:=by simpa using h
                         omega
  have hx:l[l.length - 1 - k]? =some l[l.length - 1 - k]:=aK oG;generalize l[l.length - 1 - k]=x at hx;have hy:=Tz af hx;have M:(l.length:Int) - 1 - k=((l.length - 1 - k:Nat):Int):=by omega
  rw[M];refine ws ?_;refine bC ?_;refine F4 rfl rfl bF ⟨rfl,k,hy,C,fun d m' nx' hp=>?_⟩;rcases hp with⟨rfl,hp⟩|⟨rfl,hp⟩
  .refine SS ?_;refine aa (aD rfl (fun h=>oH) fun h=>cI ?_);refine av ?_;exact aa (aJ (k+1,m',nx') (aq ⟨rfl,rfl,congrArg (fun z:Int=>I z) (show((l.length - 1 - k:Nat):Int) - 1=(l.length:Int) - 1 - ((k+1:Nat):Int) by omega),trivial⟩) ⟨by simp only;omega,hp⟩ (by simp only;omega))
  .refine SS ?_;exact aa (aD rfl (fun h=>bq (cz (qe (.inr hp)))) fun h=>oH)
 .have ba:¬ k<l.length:=by
   intro af;simp at h;omega
  have:k=l.length:=by omega
  subst this;exact lQ (.inl (by rw[Ty];exact C))
section
variable{f:aC}{beh ahd:List (List Int)}{c:D}(hc:Tr c)(dX:c.one=true)
include hc dX
theorem Cg{n:Nat}{w:Int}(hn:beh.length=n)(oh:∀ b,∀ t∈ah beh b,0<=t/\t.toNat<n)(bV:∀ b,(ah beh b).length<=100000){i5 i6 r:Nat}(h56:i5≠i6)(Ax:i5≠r)(Q6:i6≠r):∀ (k:Nat) (m:Mem) (nx:Nat) (seen:List Bool) (o:List Int) (b:Nat),
 i5<nx->i6<nx->r<nx->m i5=some (.cells [.rs r 0 n] 52)->m i6=some (.cells [.fn (.func 168) [] [.rp i5 0,.pt [.pt (aM f beh ahd c)],.pt [I w],.rp i6 0]] 128)->m r=some (.cells (seen.map B) 4)->
 seen.length=n->b<n->seen.count false<=k->seen.getD b false=false->
 ACalls prog 168 [I b,.rp i5 0,.pt [.pt (aM f beh ahd c)],.pt [I w],.rp i6 0] m nx (fun d m' nx'=>d=.tup []/\nx'=nx/\m'=up m r (some (.cells ((cW (ah beh) w k (seen,o) b).1.map B) 4)))
 |0,m,nx,seen,o,b,h5,h6,hr,HL,qR,uI,gD,hb,zG,rF=>by
  have _:=hc;have _:=dX;have:=tJ (tL rF oG);omega
 |k+1,m,nx,seen,o,b,h5,h6,hr,HL,qR,uI,gD,hb,zG,rF=>by
  have nh:=nC (beh:=beh) (b:=b) oG;have dK:=oh b;have jG:=bV b;have s9:=tJ (tL rF oG);have IH:=Cg (w:=w) hn oh bV h56 Ax Q6 k;refine tl NG ?_;rw[Yk];have aj:=HL;have bX:=uI;rw[pV];generalize ah beh b=l at nh dK jG;refine ws ?_;refine av ?_;refine Pw ?_;refine aa (ax ?_);refine aN ?_
  refine aa (cG (α:=Nat) (fun j=>⟨aw [(1,.rp i5 0),(3,.pt [I w]),(4,.rp i6 0),(17,ao l),(18,I l.length),(19,I j)],up m r (some (.cells ((cJ (ah beh) w k (seen.set b true,o) (l.take j)).1.map B) 4)),nx⟩)
   (fun j=>j<=l.length) (fun j=>l.length - j) 0 (kq eH ?_) (Nat.zero_le _) ?_)
  .rw[List.take_zero];show up m r _=up m r (some (.cells ((seen.set b true).map B) 4));rw[List.map_set]
  intro j hj;obtain⟨cl,cc⟩:=(Bo (beh:=ah beh) (w:=w) k).2 (l.take j) (seen.set b true,o)
  have cO:∀ t,l[j]? =some t->cJ (ah beh) w k (seen.set b true,o) (l.take (j+1))=if sB (cJ (ah beh) w k (seen.set b true,o) (l.take j)).1 t=false/\t≠w then cW (ah beh) w k (cJ (ah beh) w k (seen.set b true,o) (l.take j)) t.toNat else cJ (ah beh) w k (seen.set b true,o) (l.take j):=fun t ht=>by
   rw[List.take_add_one,ht];exact AZ (ah beh) w k (seen.set b true,o) (l.take j) t
  have iJ:j=l.length->cJ (ah beh) w k (seen.set b true,o) (l.take j)=cJ (ah beh) w k (seen.set b true,o) l:=fun e=>by rw[e,List.take_length]
  generalize cJ (ah beh) w k (seen.set b true,o) (l.take j)=s at cl cc cO iJ;simp only[List.length_set] at cl cc;have aj:up m r (some (.cells (s.1.map B) 4)) i5=some (.cells [.rs r 0 n] 52):=al Ax HL;have bX:up m r (some (.cells (s.1.map B) 4)) r=some (.cells (s.1.map B) 4):=up_same _ _ _;have dZ:up m r (some (.cells (s.1.map B) 4)) i6=some (.cells [.fn (.func 168) [] [.rp i5 0,.pt [.pt (aM f beh ahd c)],.pt [I w],.rp i6 0]] 128):=al Q6 qR;have vg:∀ v,up (up m r (some (.cells (s.1.map B) 4))) r v=up m r v:=fun v=>lv _ _ _ _;generalize hM:up m r (some (.cells (s.1.map B) 4))=M at aj bX dZ vg;refine SS ?_;refine aa ⟨_,rfl,fun h=>?_,fun h=>?_⟩
  .have af:j<l.length:=by simpa using h
   have hx:l[j]? =some l[j]:=aK af;have q0:=dK _ (cZ af);generalize l[j]=t at hx q0;have J:=cO t hx;obtain⟨C,rfl⟩:=dd q0.1;have xy:C<n:=q0.2;have hv:s.1[C]? =some s.1[C]:=aK oG;have np:s.1.getD C false=s.1[C]:=by simp[aV,hv]
   have vh:sB s.1 (C:Int)=s.1[C]:=np;generalize s.1[C]=v at hv np vh;have kd:=fM (f:=B) hv;refine ws ?_;refine av ?_;refine er ?_;refine cy ?_;refine ab ?_;refine aa (aD rfl (fun hp=>?_) fun hp=>?_)
   .have X:v=false/\(C:Int)≠w:=by
     revert hp;cases v<;>simp
    have J:=J.trans (if_pos ⟨vh.trans X.1,X.2⟩);refine fY ?_;refine ab ?_;refine gW (IH M nx s.1 s.2 C h5 h6 hr aj dZ bX (cl.trans gD) xy oG (np.trans X.1)) rfl bF fun d m' nx' hp=>?_;obtain⟨rfl,rfl,rfl⟩:=hp;refine aa ?_;refine ab ?_;refine aa (aJ (j+1) (kq eH ?_) oG oG);rw[vg,J];rfl
   .have X:¬ (v=false/\(C:Int)≠w):=by
     revert hp;cases v<;>simp
    have J:=J.trans (if_neg fun hh=>X ⟨vh.symm.trans hh.1,hh.2⟩);refine cI ?_;refine ab ?_;refine aa (aJ (j+1) (kq eH ?_) oG oG);rw[J];exact hM.symm
  .have ba:¬ j<l.length:=by simpa using h
   refine lQ ⟨rfl,rfl,?_⟩;rw[<- iJ oG];exact hM.symm
end
theorem k84{m:Mem}{nx i n:Nat}{l:List Int}(hi:i<nx)(hm:m i=some (.cells (l.map I) 3))(hl:l.length=n)(hn:n<=100000):
 ACalls prog 84 [.rs i 0 n] m nx (fun r m' nx'=>r=.tup []/\nx'=nx/\m'=up m i (some (.cells (l.reverse.map I) 3))):=by
 refine tl Px ?_;rw[abk]
 have nq:up m i (some (.cells (l.map I) 3))=m:=by
  funext j;simp only[up];split
  .rename_i e;rw[e,hm]
  .rfl
 have aj:=hm;refine ax ?_;refine aQ ?_
 refine aa (lk (α:=List Int×Nat) (fun s=>⟨aw [(0,.rs i 0 n),(2,I s.2),(3,I ((n:Int) - 1 - s.2))],up m i (some (.cells (s.1.map I) 3)),nx⟩)
  (fun s=>s.1.length=n/\s.2<=n/\∀ p,p<n->s.1.getD p 0=if p<s.2\/n<=p+s.2 then l.getD (n - 1 - p) 0 else l.getD p 0) (fun s=>n - s.2) (l,0) (kq ⟨rfl,rfl,congrArg (fun z:Int=>I z) (show(n:Int) - 1=(n:Int) - 1 - ((0:Nat):Int) by omega),trivial⟩ nq.symm) ⟨hl,Nat.zero_le _,fun p hp=>by rw[if_neg (by simp only;omega)]⟩ ?_)
 rintro⟨d,k⟩ ⟨hd,hk,hinv⟩;dsimp only at hd hk hinv ⊢;have aj:up m i (some (.cells (d.map I) 3)) i=some (.cells (d.map I) 3):=up_same _ _ _;refine av ?_;refine aa ⟨_,rfl,fun h=>?_,fun h=>?_⟩
 .have af:(k:Int)<(n:Int) - 1 - k:=by simpa using h
  obtain⟨j,hj⟩:∃ j:Nat,(n:Int) - 1 - k=j/\j=n - 1 - k:=⟨n - 1 - k,oG,rfl⟩
  have ha:d[k]? =some d[k]:=aK oG;have hb:d[j]? =some d[j]:=aK oG;have C:d.getD k 0=d[k]:=by simp[aV,ha]
  have J:d.getD j 0=d[j]:=by simp[aV,hb]
  have kd:=fM (f:=I) hb;have gB:=fM (f:=I) ha;generalize M:d[k]=a at ha C gB;generalize X:d[j]=b at hb J kd;clear M X;rw[hj.1];refine p8 UG ?_;refine aN ?_;refine ab ?_;refine au (eD rfl aj gB V.h) ak (eE V.h V.h gB) ?_;refine SS ?_;refine bB (dC (d:=.s (.int _ _)) (cs':=_) rfl rfl aj rfl rfl) ak (cF V.h V.h (by first|(simp;done)|exact⟨rfl,aP rfl⟩|(simp;omega)) rfl) ?_;refine ab ?_;refine bE bP ?_;refine bC ?_;refine aa (aJ ((d.set k b).set j a,k+1) (kq ⟨rfl,rfl,congrArg (fun z:Int=>I z) (show(j:Int) - 1=(n:Int) - 1 - ((k+1:Nat):Int) by omega),trivial⟩ ?_) ⟨by simp[hd],by simp only;omega,fun p hp=>?_⟩ (by simp only;omega))
  .rw[lv,lv];simp only[List.map_set]
  .simp only
   have e:((d.set k b).set j a).getD p 0=if p=j then a else if p=k then b else d.getD p 0:=by
    simp only[aV,List.getElem?_set];by_cases e1:j=p
    .subst e1;simp[hd,hp]
    .rw[if_neg e1,if_neg (show ¬ p=j from fun e=>e1 e.symm)];by_cases e2:k=p
     .subst e2;simp[hd,hp]
     .rw[if_neg e2,if_neg (show ¬ p=k from fun e=>e2 e.symm)]
   rw[e];have h1:=hinv p hp;by_cases e1:p=j
   .subst e1;rw[if_pos rfl,if_pos oG];have:=hinv k oG;rw[if_neg oG,C] at this;rw[this,show n - 1 - p=k by omega]
   .rw[if_neg e1];by_cases e2:p=k
    .subst e2;rw[if_pos rfl,if_pos oG];have:=hinv j oG;rw[if_neg oG,J] at this;rw[this,show n - 1 - p=j by omega]
    .rw[if_neg e2,h1];by_cases e3:p<k\/n<=p+k
     .rw[if_pos e3,if_pos oG]
     .rw[if_neg e3,if_neg oG]
 .have ba:¬ (k:Int)<(n:Int) - 1 - k:=by simpa using h
  refine lQ ⟨rfl,rfl,?_⟩;rw[abj hl hd hinv oG]
section
variable{f:aC}{beh ahd:List (List Int)}{c:D}(hc:Tr c)(dX:c.one=true)
include hc dX
theorem Ci{n:Nat}{w:Int}(hn:beh.length=n)(kN:f.blocks.length=n)(iW:0<n)(iX:n<=100000)(oh:∀ b,∀ t∈ah beh b,0<=t/\t.toNat<n)(X:∀ b,(ah beh b).length<=100000):
 OCall prog 116 [.pt (aM f beh ahd c),I w] ((b8 (ah beh) n w).map B) n 4:=by
 refine uW NK (.cons (tN hc) (.cons (.s _) .nil)) (.map fun _=>.s _) ?_;rw[Yq];refine ax ?_;refine fa (Bu (d:=.pt _) rfl rfl) ak rfl ?_;refine ab ?_;refine aa (aR (cE [(0,[.pt (aM f beh ahd c)],79),(1,[I w],3)] eH (l:=[(2,.pt [.pt (aM f beh ahd c)]),(3,.pt [I w])]) eH) (ax ?_));have J:((f.blocks.length:Nat):Int).toNat=n:=kN;refine cy ?_;refine Py ?_;refine aa (aR (bg (l:=[(2,.pt [.pt (aM f beh ahd c)]),(3,.pt [I w]),(5,.rp 3 0)]) (ml:=[(2,.cells ((List.replicate n false).map B) 4),(3,.cells [.rs 2 0 n] 52)]) eH ⟨?_,?_,trivial⟩) (aB (ai ?_)))
 .exact congrArg (fun c=>some (Row.cells c 4)) ((congrArg (fun k=>replD k [B false]) J).trans (Ez n false))
 .exact congrArg (fun k=>some (Row.cells [D.rs 2 0 k] 52)) J
 refine ab ?_;refine aa (c6 rfl (fun h=>?_) fun h=>cu (ai ?_))
 .have C:w=0:=by simpa using h
  refine aB (ax ?_);refine ab ?_;refine aa (aR (.refl _) (c8 (az rfl ⟨2,rfl,?_⟩)));rw[b8,if_pos C];rfl
 .have C:¬ w=0:=by simpa using h
  refine SS ?_;refine er ?_;refine SS ?_;refine bB (dC (d:=.fn _ _ _) (cs':=[_]) rfl rfl rfl rfl rfl) ak (cF V.h V.h (by first|(simp;done)|exact⟨rfl,aP rfl⟩|(simp;omega)) rfl) ?_;refine aa (ax ?_);have Cg:=Cg (f:=f) (beh:=beh) (ahd:=ahd) (w:=w) hc dX hn oh X (i5:=3) (i6:=4) (r:=2) oC oC oC n;have hR:b8 (ah beh) n w=(cW (ah beh) w n (List.replicate n false,[]) 0).1:=by rw[b8,if_neg C]
  have M:=(Bo (beh:=ah beh) (w:=w) n).1 (List.replicate n false,[]) 0;rw[<- hR] at M;refine SS ?_;refine gW (Cg _ _ (List.replicate n false) [] 0 oG oG oG rfl rfl rfl oS iW oS (by rw[aV,List.getElem?_replicate];split<;>rfl)) rfl bF fun d m' nx' hp=>?_;obtain⟨rfl,rfl,rfl⟩:=hp;rw[<- hR];generalize b8 (ah beh) n w=R at M hR ⊢;refine aa (aR (bg (l:=[(5,.rp 3 0)]) (ml:=[(2,.cells (R.map B) 4),(3,.cells [.rs 2 0 n] 52)]) eH eH) (ax ?_));refine ab ?_;exact aa (aR (.refl _) (az rfl ⟨2,rfl,rfl⟩))
end
structure Cj(i3 i4 i5 r n:Nat)(fv:D)(m:Mem)(nx q:Nat)(s:List Bool×List Int):Prop where
 h3:i3<nx
 h4:i4<nx
 h5:i5<nx
 hr:r<nx
 m3:m i3=some (.cells [.rs r 0 n] 52)
 m5:m i5=some (.cells [fv] 128)
 mr:m r=some (.cells (s.1.map B) 4)
 m4:m i4=some (.cells [jc q (s.2.map I)] 27)
 mq:s.2≠[]->q<nx/\q≠i3/\q≠i4/\q≠i5/\q≠r/\m q=some (.cells (s.2.map I) 3)
section
variable{f:aC}{beh ahd:List (List Int)}{c:D}(hc:Tr c)(dX:c.one=true)
include hc dX
theorem zH{n:Nat}(hn:beh.length=n)(oh:∀ b,∀ t∈ah beh b,0<=t/\t.toNat<n)(bV:∀ b,(ah beh b).length<=100000){i3 i4 i5 r:Nat}(xt:i3≠i4)(h35:i3≠i5)(Q7:i3≠r)(HM:i4≠i5)(CX:i4≠r)(Ax:i5≠r):
 ∀ (k:Nat) (m:Mem) (nx q:Nat) (C:List Bool×List Int) (b:Nat),
 Cj i3 i4 i5 r n (.fn (.func 149) [] [.rp i3 0,.pt [.pt (aM f beh ahd c)],.rp i5 0,.rp i4 0]) m nx q C->C.1.length=n->b<n->C.1.count false<=k->C.1.getD b false=false->C.2.length+C.1.count false<=100000->
 ACalls prog 149 [I b,.rp i3 0,.pt [.pt (aM f beh ahd c)],.rp i5 0,.rp i4 0] m nx (fun d m' nx'=>d=.tup []/\∃ q',Cj i3 i4 i5 r n (.fn (.func 149) [] [.rp i3 0,.pt [.pt (aM f beh ahd c)],.rp i5 0,.rp i4 0]) m' nx' q' (cW (ah beh) (-1) k C b))
 |0,m,nx,q,C,b,J,gD,hb,zG,rF,hlen=>by
  have _:=hc;have _:=dX;have:=tJ (tL rF oG);omega
 |k+1,m,nx,q,C,b,J,gD,hb,zG,rF,hlen=>by
  have nh:=nC (beh:=beh) (b:=b) oG;have dK:=oh b;have jG:=bV b;have s9:=tJ (tL rF oG);have IH:=zH hn oh bV xt h35 Q7 HM CX Ax k;have eV:=(KG (w:= -1) oh k).2;refine tl NL ?_;rw[Yr];have aj:=J.m3;have bX:=J.mr;have⟨p3,p4,p5,pr,_,_,_,_,pq⟩:=J;rw[pV];generalize ah beh b=l at nh dK jG;refine ws ?_;refine av ?_;refine Pw ?_;refine aa (aB (ax ?_));refine aN ?_
  refine aa (cN (fun s=>∃ m nx q,Ghost prog s ⟨aw [(0,I b),(4,.rp i4 0)],m,nx⟩/\Cj i3 i4 i5 r n (.fn (.func 149) [] [.rp i3 0,.pt [.pt (aM f beh ahd c)],.rp i5 0,.rp i4 0]) m nx q (cJ (ah beh) (-1) k (C.1.set b true,C.2) l)) (cG (α:=Nat×Nat×Mem×Nat)
   (fun j=>⟨aw [(0,I b),(1,.rp i3 0),(3,.rp i5 0),(4,.rp i4 0),(17,ao l),(18,I l.length),(19,I j.1)],j.2.2.1,j.2.2.2⟩)
   (fun j=>j.1<=l.length/\Cj i3 i4 i5 r n (.fn (.func 149) [] [.rp i3 0,.pt [.pt (aM f beh ahd c)],.rp i5 0,.rp i4 0]) j.2.2.1 j.2.2.2 j.2.1 (cJ (ah beh) (-1) k (C.1.set b true,C.2) (l.take j.1))) (fun j=>l.length - j.1) (0,q,_,nx)
   (aq eH) ⟨Nat.zero_le _,?_⟩ ?_) ?_)
  .dsimp only;refine⟨p3,p4,p5,pr,al Q7 J.m3,al Ax J.m5,?_,al CX J.m4,fun h=>?_⟩
   .rw[List.take_zero];show up m r _ r=some (.cells ((C.1.set b true).map B) 4);rw[List.map_set];exact up_same _ _ _
   .obtain⟨a1,a2,a3,a4,a5,a6⟩:=pq h;exact⟨a1,a2,a3,a4,a5,al a5 a6⟩
  .clear J aj bX p3 p4 p5 pr pq;rintro⟨j,q,m,nx⟩ ⟨hj,J⟩;dsimp only at hj J ⊢;obtain⟨cl,cc⟩:=(Bo (beh:=ah beh) (w:= -1) k).2 (l.take j) (C.1.set b true,C.2);have cp:=eV (l.take j) (fun c h=>dK c (List.mem_of_mem_take h)) (C.1.set b true,C.2) (by simpa using gD)
   have cO:∀ t,l[j]? =some t->cJ (ah beh) (-1) k (C.1.set b true,C.2) (l.take (j+1))=if sB (cJ (ah beh) (-1) k (C.1.set b true,C.2) (l.take j)).1 t=false/\t≠ -1 then cW (ah beh) (-1) k (cJ (ah beh) (-1) k (C.1.set b true,C.2) (l.take j)) t.toNat else cJ (ah beh) (-1) k (C.1.set b true,C.2) (l.take j):=fun t ht=>by
    rw[List.take_add_one,ht];exact AZ (ah beh) (-1) k (C.1.set b true,C.2) (l.take j) t
   have iJ:j=l.length->cJ (ah beh) (-1) k (C.1.set b true,C.2) (l.take j)=cJ (ah beh) (-1) k (C.1.set b true,C.2) l:=fun e=>by rw[e,List.take_length]
   generalize cJ (ah beh) (-1) k (C.1.set b true,C.2) (l.take j)=s at cl cc cO iJ J cp;simp only[List.length_set] at cl cc cp;have aj:=J.m3;have bX:=J.mr;have dZ:=J.m5;refine SS ?_;refine aa ⟨_,rfl,fun h=>?_,fun h=>?_⟩
   .have af:j<l.length:=by simpa using h
    have hx:l[j]? =some l[j]:=aK af;have q0:=dK _ (cZ af);generalize l[j]=t at hx q0;have X:=cO t hx;obtain⟨M,rfl⟩:=dd q0.1;have xy:M<n:=q0.2;have hv:s.1[M]? =some s.1[M]:=aK oG;have np:s.1.getD M false=s.1[M]:=by simp[aV,hv]
    have vh:sB s.1 (M:Int)=s.1[M]:=np;generalize s.1[M]=v at hv np vh;have kd:=fM (f:=B) hv;refine ws ?_;refine av ?_;refine er ?_;refine aQ ?_;refine aa (aD rfl (fun hp=>?_) fun hp=>?_)
    .have pR:v=false:=by simpa using hp
     have X:=X.trans (if_pos ⟨vh.trans pR,oG⟩);refine fY ?_;refine ab ?_;refine gW (IH m nx q s M J (cl.trans gD) xy oG (np.trans pR) oG) rfl bF fun d m' nx' hp=>?_;obtain⟨rfl,q',hp⟩:=hp;refine aa ?_;refine ab ?_;refine aa (aJ (j+1,q',m',nx') (aq eH) ⟨oM,?_⟩ oM);dsimp only;rw[X];exact hp
    .have pR:v=true:=by simpa using hp
     have X:=X.trans (if_neg fun hh=>by rw[vh,pR] at hh;exact absurd hh.1 oS);refine cI ?_;refine ab ?_;refine aa (aJ (j+1,q,m,nx) (aq eH) ⟨oM,?_⟩ oM);dsimp only;rw[X];exact J
   .have ba:¬ j<l.length:=by simpa using h
    rw[<- iJ oG];exact⟨m,nx,q,aq eH,J⟩
  .clear J aj bX p3 p4 p5 pr pq;rintro s ⟨m,nx,q,hg,J⟩;have cp:=eV l dK (C.1.set b true,C.2) (by simpa using gD);generalize cJ (ah beh) (-1) k (C.1.set b true,C.2) l=u at J cp ⊢;obtain⟨u1,u2⟩:=u;have⟨p3,p4,p5,pr,m3,m5,mr,m4,pq⟩:=J;dsimp only at mr m4 pq cp ⊢;refine⟨_,hg,kB ?_⟩;by_cases hz:u2=[]
   .subst hz;have aj:m i4=some (.cells [.z] 27):=m4;refine aQ ?_;refine aa (lQ ⟨rfl,nx+1,?_⟩);dsimp only;refine⟨oG,oG,oG,oG,?_,?_,?_,?_,fun _=>⟨oG,oG,oG,oG,oG,?_⟩⟩
    .exact al xt (al oG (al oG m3))
    .exact al (Ne.symm HM) (al oG (al oG m5))
    .exact al (Ne.symm CX) (al oG (al oG mr))
    .exact(up_same _ _ _).trans rfl
    .exact al oG ((up_same _ _ _).trans rfl)
   .have ap:u2.map I≠[]:=by simpa using hz
    obtain⟨q1,q2,q3,q4,q5,q6⟩:=pq hz;have aj:m i4=some (.cells [.rs q 0 u2.length] 27):=by rw[m4,nZ ap,List.length_map]
    have bX:=q6;have rk:(u2.map I).length=u2.length:=by simp
    refine aI ?_;refine OM ?_;refine aa (lQ ⟨rfl,nx+1,?_⟩);dsimp only;refine⟨oG,oG,oG,oG,?_,?_,?_,?_,fun _=>⟨oG,oG,oG,oG,oG,?_⟩⟩
    .exact al xt (al oG (al (Ne.symm q2) (al oG m3)))
    .exact al (Ne.symm HM) (al oG (al (Ne.symm q4) (al oG m5)))
    .exact al (Ne.symm CX) (al oG (al (Ne.symm q5) (al oG mr)))
    .refine(up_same _ _ _).trans ?_;rw[List.map_append,nZ oS];simp
    .refine al oG ((up_same _ _ _).trans ?_);rw[List.map_append];rfl
theorem xL{n:Nat}(hn:beh.length=n)(kN:f.blocks.length=n)(iW:0<n)(iX:n<=100000)(oh:∀ b,∀ t∈ah beh b,0<=t/\t.toNat<n)(bV:∀ b,(ah beh b).length<=100000):
 OCall prog 85 [.pt (aM f beh ahd c)] ((bH (ah beh) n).map I) (bH (ah beh) n).length 3:=by
 refine uW Pz (.cons (tN hc) .nil) (.map fun _=>.s _) ?_;rw[abl];refine ax ?_;refine fa (Bu (d:=.pt _) rfl rfl) ak rfl ?_;refine SS ?_;refine aa (aR (cE [(0,[.pt (aM f beh ahd c)],79)] eH (l:=[(1,.pt [.pt (aM f beh ahd c)])]) eH) (ax ?_));have dp:((f.blocks.length:Nat):Int).toNat=n:=kN;refine cy ?_;refine Py ?_;refine aa (aR (bg (l:=[(1,.pt [.pt (aM f beh ahd c)]),(3,.rp 2 0)]) (ml:=[(1,.cells ((List.replicate n false).map B) 4),(2,.cells [.rs 1 0 n] 52)]) eH ⟨?_,?_,trivial⟩) (ai ?_))
 .exact congrArg (fun c=>some (Row.cells c 4)) ((congrArg (fun k=>replD k [B false]) dp).trans (Ez n false))
 .exact congrArg (fun k=>some (Row.cells [D.rs 1 0 k] 52)) dp
 refine SS ?_;refine er ?_;refine SS ?_;refine er ?_;refine SS ?_;refine bB (dC (d:=.fn _ _ _) (cs':=[_]) rfl rfl rfl rfl rfl) ak (cF V.h V.h (by first|(simp;done)|exact⟨rfl,aP rfl⟩|(simp;omega)) rfl) ?_;refine aa (ax ?_);have zH:=zH (f:=f) (beh:=beh) (ahd:=ahd) hc dX hn oh bV (i3:=2) (i4:=3) (i5:=4) (r:=1) oC oC oC oC oC oC n;have hz:(List.replicate n false).getD 0 false=false:=by rw[aV,List.getElem?_replicate];split<;>rfl
 have pS:=(KG (w:= -1) oh n).1 (List.replicate n false,[]) 0 oS iW hz
 have C:(cW (ah beh) (-1) n (List.replicate n false,[]) 0).2≠[]:=by
  obtain⟨j,rfl⟩:∃ j,n=j+1:=⟨n - 1,oG⟩
  exact WC
 have hR:bH (ah beh) n=(cW (ah beh) (-1) n (List.replicate n false,[]) 0).2.reverse:=rfl;refine SS ?_;refine gW (zH _ _ 0 (List.replicate n false,[]) 0 ⟨oC,oC,oC,oC,rfl,rfl,rfl,rfl,fun h=>absurd rfl h⟩ oS iW oS hz oP) rfl bF fun d m' nx' hp=>?_;obtain⟨rfl,J,X⟩:=hp;have m4:=X.m4;obtain⟨q1,q2,q3,q4,q5,M⟩:=X.mq C;rw[hR];clear X hR zH;generalize (cW (ah beh) (-1) n (List.replicate n false,[]) 0)=u at pS C m4 M ⊢;obtain⟨u1,u2⟩:=u;dsimp only at pS C m4 M ⊢;have zp:u2.map I≠[]:=by simpa using C
 have aj:m' 3=some (.cells [.rs J 0 u2.length] 27):=by rw[m4,nZ zp,List.length_map]
 have bX:=M;have jG:u2.length<=100000:=by simp at pS;omega
 refine aa (aR (aq (l:=[(4,.rp 3 0)]) eH) (ai ?_));refine SS ?_;refine gW (k84 q1 M rfl jG) rfl bF fun d m2 bx hp=>?_;obtain⟨rfl,rfl,rfl⟩:=hp;refine er ?_;have aj:up m' J (some (.cells (u2.reverse.map I) 3)) 3=some (.cells [.rs J 0 u2.length] 27):=al (Ne.symm q3) aj;refine ab ?_;refine aa (az rfl ⟨J,?_,up_same _ _ _⟩);rw[List.length_reverse];rfl
end
end Go.Proofs.Tryz.K
namespace Go.Abs
section
variable{P:Program}{m:Mem}{nx:Nat}
theorem RI{f:FuncId}{rds:List Nat}{args args' es:List D}{n:Nat}{t:TypeId}(kM:Sns P rds m args args')(hc:OCall P f args' es n t)(jC:∀ d∈es,d.scal=true):
 ACalls P f args m nx (fun d m' nx'=>d=.rs nx 0 n/\m'=up m nx (some (.cells es t))/\nx'=nx+1):=by
 refine⟨hc.1,fun F β w vs hm hβ hR=>?_⟩;have hn:=hβ nx (aU _)
 obtain⟨h1,h2⟩:=sns_R (P:=P) (F:=F) (β:=β) (w:=w) (fun i hi r hr=>by
  obtain⟨p,hp,aj⟩:=hm.row i r hr
  exact⟨p,hp,aj,fun b hb=>hm.nf i p b hp hb⟩) kM
 refine(hc.2.2 F w vs (fun b hb=>hm.fb b hb) ⟨by rw[hR.1,h1],fun k d v hd hv=>?_⟩).mono ?_
 .have af:k<args.length:=by rw[h1];exact(bj.1 hd).1
  exact h2 k args[k] d (by simp[af]) hd v (hR.2 k args[k] v (by simp[af]) hv)
 rintro e w' ⟨v,p,he,E3,C,aj,hv,hk⟩;have fE:=hm.kept hk
 have hs:Step β w (up β nx (some p)) w':=by
  refine⟨hk.1,fun b hb hf=>⟨hk.2.1 b hb,fun i q hq=>?_⟩,fun i q hq=>.inl ?_,hk.2.2⟩
  .by_cases hi:i=nx
   .subst hi;rw[up_same] at hq;cases hq;intro e;have:=(C b e).1;omega
   .rw[up_ne _ _ hi] at hq;exact hf i q hq
  .rw[up_ne _ _ (fun e=>by rw[e,hn] at hq;cases hq)];exact hq
 have M:∀ i q b,up β nx (some p) i=some q->q.blk=some b->(i=nx/\q=p)\/(i≠nx/\β i=some q):=fun i q b hq _=>by
  by_cases hi:i=nx
  .subst hi;rw[up_same] at hq;cases hq;exact .inl ⟨rfl,rfl⟩
  .rw[up_ne _ _ hi] at hq;exact .inr ⟨hi,hq⟩
 have E4:RowR P F (up β nx (some p)) w' (.cells es t) p:=by
  cases aj with
  |nil _=>exact .nil _
  |cells _ _ b o room sz c h1 h2 h3 h4 h5=>
   refine .cells es t b o room sz c h1 h2 h3 h4 fun k d hd=>?_;obtain⟨u,l7,mb,me⟩:=h5 k d hd;exact⟨u,l7,scal_R (jC d (bJ hd)) mb,me⟩
 refine⟨v,.rs nx 0 n,up m nx (some (.cells es t)),nx+1,up β nx (some p),he,⟨rfl,rfl,rfl⟩,?_,fun i hi=>by rw[up_ne _ _ oG];exact hβ i oG,?_,hs,Nat.le_succ _,fun i hi hb=>by rw[up_ne _ _ oG];exact hb⟩
 .refine⟨fun i r hi=>?_,fun i j q q' b hq fF e J=>?_,fun i q b hq e=>?_,fun i q b hq e=>?_,fE.fb⟩
  .by_cases X:i=nx
   .subst X;rw[up_same] at hi;cases hi;exact⟨p,up_same _ _ _,E4⟩
   .rw[up_ne _ _ X] at hi;obtain⟨q,hq,GH⟩:=hm.row i r hi;exact⟨q,by rw[up_ne _ _ X];exact hq,GH.step hs fun b hb=>hk.2.1 b (hm.lt i q b hq hb)⟩
  .rcases M i q b hq e with⟨rfl,rfl⟩|⟨hi,h1⟩<;>rcases M j q' b fF J with⟨rfl,rfl⟩|⟨hj,h2⟩
   .rfl
   .have:=(C b e).1;have:=hm.lt j q' b h2 J;omega
   .have:=(C b J).1;have:=hm.lt i q b h1 e;omega
   .exact hm.inj i j q q' b h1 h2 e J
  .rcases M i q b hq e with⟨_,rfl⟩|⟨_,h1⟩
   .exact(C b e).2
   .exact fE.lt i q b h1 e
  .rcases M i q b hq e with⟨_,rfl⟩|⟨_,h1⟩
   .intro hF;have:=hm.fb b hF;have:=(C b e).1;omega
   .exact hm.nf i q b h1 e
 .cases hv with
  |rsd _ _ _ _ h _=>rw[up_same] at h;cases h;exact absurd rfl E3
  |rsn _ a h=>rw[up_same] at h;cases h;exact .rsn nx a (up_same _ _ _)
  |rsz _ _ a b o len room sz h=>rw[up_same] at h;cases h;exact .rsz nx 0 a b o len room sz (up_same _ _ _)
  |rs _ _ _ cap b o len room sz h h1 h2 h3 h4=>rw[up_same] at h;cases h;exact .rs nx 0 n cap b o len room sz (up_same _ _ _) h1 h2 h3 h4
end
section
variable{P:Program}{env:Env}{m:Mem}{nx:Nat}
theorem Ba{f:FuncId}{args:List D}{bA:D->Mem->Nat->Prop}{i:Nat}{r:Row}(hm:m i=some r)(he:enterOk P f=true)(h:i<nx->ACalls P f args m nx bA):ACalls P f args m nx bA:=⟨he,fun F β w vs C J hR=>by
 refine(h ?_).2 F β w vs C J hR;rcases Nat.lt_or_ge i nx with g|g
 .exact g
 .obtain⟨p,hp,_⟩:=C.row i r hm
  rw[J i g] at hp;cases hp⟩
theorem BU{Y:YSpec}{ops:Array Oper}{dr:Bool}{cf:List (Nat×Nat)}{Q:Exit->St->Prop}{rest:List Oper}{tr:Tra}{op:Op}{ty:TypeId}{pos:String}{after:Array Edge}{f:FuncId}{args:List D}{r:D}{ups:List (Nat×Option Row)}{rds:List Nat}{d:Option Nat}
 (h:∀ C bx,(∀ i∈rds,m i≠none->C i=m i)->ACalls P f args C bx fun r' m' nx'=>r'=r/\m'=upds C ups/\nx'=bx) (J:∀ i∈ups.map (·.1),i∈rds/\m i≠none) (hc:callD (rho env op) op=some (f,args)) (ha:eZ env op.operands.toList)
 (K:AOps P Y ops dr cf Q rest (St.put ⟨env,upds m ups,nx⟩ d r) (tr++[(rds,ups.map (·.1))])):AOps P Y ops dr cf Q (⟨d,op,ty,pos,after,none⟩::rest) ⟨env,m,nx⟩ tr:=yl hc ha (.inr (.inr (.inr (.inr (.inl ⟨r,ups,rds,h,J,K⟩)))))
theorem Jn{i:Nat}{cs:List D}{e:TypeId}{l:List (Nat×D)}(hm:m i=some (.cells cs e))(hl:gU l fun t=>sub (fz0 i cs (P.cellsOf e)) (env t)):
 Ghost P ⟨env,m,nx⟩ ⟨aw l,fun j=>if j=i then none else(m j).map (Row.sub (fz0 i cs (P.cellsOf e))),nx⟩:=
 (Ghost.freeze env m nx i cs e hm).trans (Ghost.forget _ _ _ _ (kY hl))
theorem fq.fz{j n q sz:Nat}{e et:TypeId}{ρ:Nat->Nat}{L:Nat->List D}{cs:List D}(h:fq m nx j n e et ρ L)(hs:∀ i,sN (L i))(hq:j≠q)(C:∀ i,i<n->L i≠[]->ρ i≠q):
 fq (fun p=>if p=q then none else(m p).map (Row.sub (fz0 q cs sz))) nx j n e et ρ L:=by
 refine⟨?_,h.rC,fun i hi hl=>?_,h.lt,h.ne,h.inj⟩
 .rw[if_neg hq,h.row];refine congrArg some (jP.cells (X:=fun p=>p=q) (fun d hd=>?_) q cs sz rfl);obtain⟨i,hi,rfl⟩:=List.mem_map.1 hd;by_cases hl:L i=[]
  .rw[hl];exact .z
  .rw[nZ hl];exact .rs (C i (by simpa using hi) hl)
 .rw[if_neg (C i hi hl),h.sP i hi hl];exact congrArg some (jP.Pb (X:=fun p=>p=q) (hs i) q cs sz rfl)
end
end Go.Abs
namespace Go.Argus
open Go.Proofs.Tryz.K (nextR)
theorem TB{f:aC}{x:End}(h:mP f x=true):gg x=bZ x:=by
 unfold mP at h;rw[aG] at h;obtain⟨h,hb⟩:=h;have hb:=KE hb;obtain⟨kind,a,b,to,iz,name,ins,args,aE,di⟩:=x;simp only[eg] at h hb;by_cases h1:kind=1
 .subst h1;simp only[Int.reduceEq,if_false,if_true] at hb;have J:aE=[]:=List.length_eq_zero_iff.1 hb.2.2.2.2.2.2.2;have C:di= -1:=hb.2.2.2.2.2.1;subst J C;simp[gg,gF,lI,dL,bZ,fj,aW]
 by_cases h2:kind=2
 .subst h2;simp only[Int.reduceEq,if_false,if_true] at hb;have J:aE=[]:=List.length_eq_zero_iff.1 hb.2.2.2.2.2.2.2;have C:di= -1:=hb.2.2.2.2.2.1;subst J C;simp[gg,gF,lI,dL,bZ,fj,aW]
 by_cases h3:kind=3
 .subst h3;simp only[Int.reduceEq,if_false,if_true] at hb;have J:aE=[]:=List.length_eq_zero_iff.1 hb.2.2.2.2.2.2.2;have C:di= -1:=hb.2.2.2.2.2.1;subst J C;simp[gg,gF,lI,dL,bZ,fj,aW]
 by_cases h4:kind=4
 .subst h4;simp only[Int.reduceEq,if_false,if_true] at hb;have J:aE=[]:=List.length_eq_zero_iff.1 hb.2.2.2.2.2.2.2;have C:di= -1:=hb.2.2.2.2.2.1;subst J C;simp[gg,gF,lI,dL,bZ,fj,aW]
 by_cases h5:kind=5
 .subst h5;by_cases C:0<=di<;>simp[gg,gF,lI,dL,bZ,fj,aW,C]
 by_cases M:kind=6
 .subst M;by_cases C:0<=di<;>simp[gg,gF,lI,dL,bZ,fj,aW,C]
 by_cases X:kind=7
 .subst X;simp only[Int.reduceEq,if_false,if_true] at hb;have J:aE=[]:=List.length_eq_zero_iff.1 hb.2.2.2.2.2.2.2;have C:di= -1:=hb.2.2.2.2.2.1;subst J C;simp[gg,gF,lI,dL,bZ,fj,aW]
 by_cases h8:kind=8
 .subst h8;by_cases C:0<=di<;>simp[gg,gF,lI,dL,bZ,fj,aW,C]
 by_cases h9:kind=9
 .subst h9;simp only[Int.reduceEq,if_false,if_true] at hb;have J:aE=[]:=List.length_eq_zero_iff.1 hb.2.2.2.2.2.2.2;have C:di= -1:=hb.2.2.2.2.2.1;subst J C;simp[gg,gF,lI,dL,bZ,fj,aW]
 .simp only[h1,h2,h3,h4,h5,M,X,h8,h9,if_false] at h;cases h
theorem RX{f:aC}(h:k6 f=true):∀ x∈f.blocks,gg x.fin=bZ x.fin:=by
 unfold k6 at h;simp only[aG] at h;obtain⟨J,M,_,C,hR⟩:=h;intro x hx;obtain⟨k,hk⟩:=cU hx;have af:k<f.blocks.length:=(bj.1 hk).1;have:=bh.1 C k (by simpa using af);rw[kz,getD_some hk] at this;simp only[aG,Bool.not_eq_true',decide_eq_false_iff_not] at this;exact TB this.1
def aO(f:aC):List (List Int):=f.blocks.map fun x=>nextR x.fin
theorem rL{f:aC}{k:Nat}{x:ca}(h:f.blocks[k]? =some x):ah (aO f) k=nextR x.fin:=by
 unfold ah aO;simp[aV,h]
theorem AU{f:aC}{k:Nat}(h:f.blocks.length<=k):ah (aO f) k=[]:=by
 unfold ah aO;rw[aV,List.getElem?_eq_none (by simpa using h)];rfl
def fx(f:aC)(a b c:D):List D:=[S f.name,B f.iter,I f.args,U8 f.result,ik f.aL,ik f.cv,mE f.signals,dM f.blocks,a,b,c]
def gr(f:aC)(n k:Nat):List D:=(List.range n).map fun i=>if i<k then ao (ah (aO f) i) else .z
@[simp] theorem aeM (f : aC) (n k : Nat) : (gr f n k).length = n := by simp [gr]
theorem UH{f:aC}{n k:Nat}{x:D}(hk:k<n):(gr f n k).set k x=(List.range n).map fun i=>if i=k then x else if i<k then ao (ah (aO f) i) else .z:=by
 unfold gr;rw[DE];exact List.map_congr_left fun i _=>rfl
def nP(f:aC):List D:=aM f (aO f) (bu f.blocks) (dk (b8 (ah (aO f)) f.blocks.length (-1)))
end Go.Argus
namespace Go.Proofs.Tryz.K
set_option maxRecDepth 10000
theorem beh_in{f:aC}(h:lT f):∀ b,∀ t∈ah (aO f) b,0<=t/\t.toNat<f.blocks.length:=fun b t ht=>by
 cases hx:f.blocks[b]? with
 |none=>rw[AU (List.getElem?_eq_none_iff.1 hx)] at ht;simp at ht
 |some x=>
  rw[rL hx] at ht;have:=(h.ends x (bJ hx)).to t (Dm.1 ht);omega
theorem Ev{f:aC}(h:lT f):∀ b,(ah (aO f) b).length<=100000:=fun b=>by
 cases hx:f.blocks[b]? with
 |none=>rw[AU (List.getElem?_eq_none_iff.1 hx)];simp
 |some x=>
  rw[rL hx];have:=xU x.fin;have:=(h.ends x (bJ hx)).wh;omega
set_option maxHeartbeats 2000000 in
theorem we{f:aC}(aZ:bW f=0):PCall prog 51 [.agg (aX f)] (.tup [.pt (nP f),I 0]):=by
 have tF:=tF (f:=f);rw[aZ] at tF
 have hf:k6 f=true:=by
  unfold bW at aZ;split at aZ
  .assumption
  .cases aZ
 have bz:=mN hf;have j8:=RX hf;obtain⟨n,hn⟩:∃ n,f.blocks.length=n:=⟨_,rfl⟩
 have iX:n<=1200:=hn▸bz.oD;have rE:∀ b,∀ t∈ah (aO f) b,0<=t/\t.toNat<n:=hn▸beh_in bz;have bV:=Ev bz;refine bd Gv (.cons (.agg (jL f)) .nil) (.tup (.cons (.pt (DI (.sl (.map fun _=>.s _)))) (.cons (.s _) .nil))) ?_;rw[PA];refine ax ?_;refine av ?_;refine aa (aR (cE [(0,aX f,26)] eH (l:=[(1,.pt (aX f))]) eH) (aB (ai ?_)));refine SS ?_;refine cl tF ?_;refine SS ?_;refine aa (aB (ai ?_));refine ab ?_;refine aa (c6 rfl (fun h=>oH) fun h=>cu (ai ?_));refine aI ?_;refine aa (oV UI ?_);refine eW ?_;refine au (ku (v:=.rp _ _) rfl) ak trivial ?_;have dp:((f.blocks.length:Nat):Int).toNat=n:=hn;refine bE bP (aR (bg (l:=[(1,.pt (aX f)),(6,.rp 3 0)]) (ml:=[(1,.cells (List.replicate n .z) 27),(2,.cells (List.replicate n .z) 27),(3,.cells (fx f (.rs 1 0 n) (.rs 2 0 n) .z) 89)]) eH ⟨?_,?_,?_,trivial⟩) (aB (ax ?_)))
 .exact congrArg (fun c=>some (Row.cells c 27)) ((congrArg (fun k=>replD k [D.z]) dp).trans (yo n))
 .exact congrArg (fun c=>some (Row.cells c 27)) ((congrArg (fun k=>replD k [D.z]) dp).trans (yo n))
 .exact congrArg (fun k=>some (Row.cells (fx f (.rs 1 0 k) (.rs 2 0 k) .z) 89)) dp
 refine aI ?_
 have lC:gr f n 0=List.replicate n D.z:=by
  unfold gr;simp only[Nat.not_lt_zero,if_false];rw[List.map_const',List.length_range]
 refine aa (cN (fun s=>∃ m nx ρ,Ghost prog s ⟨aw [(6,.rp 3 0)],m,nx⟩/\4<=nx/\m 1=some (.cells (gr f n n) 27)/\m 3=some (.cells (fx f (.rs 1 0 n) (.rs 2 0 n) .z) 89)/\fq m nx 2 n 27 3 ρ (fun i=>(bw f.blocks n i).map I)/\(∀ i,i<n->(bw f.blocks n i).map I≠[]->ρ i≠1/\ρ i≠3)) (cG (α:=Nat×Mem×Nat)
  (fun k=>⟨aw [(1,.pt (aX f)),(6,.rp 3 0),(28,dM f.blocks),(29,I n),(30,I k.1)],k.2.1,k.2.2⟩)
  (fun k=>k.1<=n/\4<=k.2.2/\k.2.1 1=some (.cells (gr f n k.1) 27)/\k.2.1 3=some (.cells (fx f (.rs 1 0 n) (.rs 2 0 n) .z) 89)/\(∃ ρ,fq k.2.1 k.2.2 2 n 27 3 ρ (fun i=>(bw f.blocks k.1 i).map I)/\(∀ i,i<n->(bw f.blocks k.1 i).map I≠[]->ρ i≠1/\ρ i≠3))/\∀ i,(bw f.blocks k.1 i).length<=12*k.1) (fun k=>n - k.1)
  (0,bi [(1,.cells (List.replicate n .z) 27),(2,.cells (List.replicate n .z) 27),(3,.cells (fx f (.rs 1 0 n) (.rs 2 0 n) .z) 89)],4)
  (aq ⟨rfl,rfl,rfl,congrArg (fun k:Nat=>I k) hn,rfl,trivial⟩) ⟨Nat.zero_le _,aU _,by rw[lC];rfl,rfl,⟨fun _=>0,J3 (show 2<4 by decide) rfl,fun _ _ h=>absurd rfl h⟩,fun _=>aU _⟩ ?_) ?_)
 .rintro⟨k,m,nx⟩ ⟨hk,dx,m1,m3,⟨ρ,C,J⟩,hlen⟩;dsimp only at hk dx m1 m3 C J hlen ⊢;refine SS ?_;refine aa ⟨_,rfl,fun h=>?_,fun h=>?_⟩
  .have af:k<n:=by simpa using h
   have hx:f.blocks[k]? =some f.blocks[k]:=aK oG;have fW:f.blocks[k]∈f.blocks:=cZ _;generalize f.blocks[k]=x at hx fW
   have cO:bw f.blocks (k+1)=(nextR x.fin).foldl (dT k) (bw f.blocks k):=by
    rw[bw,List.range_succ,List.foldl_append];show qh f.blocks _ k=_;rw[qh,hx];rfl
   have fV:=rL hx;have dK:=rE k;have HE:=(bz.ends x fW).wh;have hle:=Tx x.fin;have Q8:=j8 x fW;have z5:=xU x.fin;have te:nextR x.fin=io (dO (gg x.fin)):=by rw[Q8];rfl
   have zF:=zF (x:=x.fin) oG;rw[fV] at dK;generalize bw f.blocks k=L0 at C hlen J cO;refine ws ?_;refine bC ?_;refine er ?_;refine SS ?_;refine au (df (vs:=bm _) rfl (up_same _ _ _) V.h V.h rfl) ak (dg V.h V.h (by first|(simp;done)|omega|exact aP rfl)) ?_;refine ww zF rfl bF ?_;refine SS ?_;generalize gg x.fin=d at hle te zF;refine aa (ax ?_);refine SS ?_;refine gW (rA (i:=nx+1) (l:=d) oG (up_same _ _ _) rfl oG) rfl bF fun r m' nx' hp=>?_;obtain⟨rfl,rfl,rfl⟩:=hp;have gD:(dO d).length=d.length:=DF d;have cD:(io (dO d)).length=(nextR x.fin).length:=by rw[te]
   refine aa (aR (kq (l:=[(1,.pt (aX f)),(6,.rp 3 0),(7,I k),(9,.rs (nx+1) 0 d.length),(28,dM f.blocks),(29,I n),(30,I k)]) (m':=up (up m nx (some (.cells (dt x) 72))) (nx+1) (some (.cells ((dO d).map I) 3))) eH (by rw[lv,lv])) (oV TC ?_));have aj:up (up m nx (some (.cells (dt x) 72))) (nx+1) (some (.cells ((dO d).map I) 3)) 3=some (.cells (fx f (.rs 1 0 n) (.rs 2 0 n) .z) 89):=al oG (al oG m3);have bX:up (up m nx (some (.cells (dt x) 72))) (nx+1) (some (.cells ((dO d).map I) 3)) 1=some (.cells (gr f n k) 27):=al oG (al oG m1);have dZ:up (up m nx (some (.cells (dt x) 72))) (nx+1) (some (.cells ((dO d).map I) 3)) (nx+1)=some (.cells ((dO d).map I) 3):=up_same _ _ _;have Ao:=C.lt;have C:=C.ext (m':=up (up m nx (some (.cells (dt x) 72))) (nx+1) (some (.cells ((dO d).map I) 3))) (nx':=nx+2) (fun q hq=>al oG (al oG rfl)) oG;generalize up (up m nx (some (.cells (dt x) 72))) (nx+1) (some (.cells ((dO d).map I) 3))=M at aj bX dZ C;clear m1 m3;refine bC ?_;refine BU (r:=.rs (nx+1) 0 (io (dO d)).length) (ups:=[(nx+1,some (.cells (qv (dO d) d.length) 3))]) (rds:=[nx+1]) (fun m2 bx iS=>?_) ?_ rfl bF ?_
   .have e:=iS (nx+1) oS (by rw[dZ];simp);rw[dZ] at e;refine Ba e wU.he fun pz=>(zz pz e gD oG).mono ?_;rintro r m' nx' ⟨h1,h2,h3⟩;exact⟨h2,h3,h1⟩
   .intro i hi;simp at hi;subst hi;exact⟨oS,by rw[dZ];simp⟩
   have nb:qv (dO d) d.length=(nextR x.fin).map I++List.replicate (d.length - (nextR x.fin).length) (I 0):=by rw[qv,te]
   show AOps _ _ _ _ _ _ _ ⟨up _ 46 _,up M (nx+1) (some (.cells (qv (dO d) d.length) 3)),_⟩ _;rw[<- te,nb]
   have bG:(nextR x.fin).length<=d.length:=by
    rw[te];have:(io (dO d)).length<=(dO d).length:=Ex _;omega
   clear nb cD te dZ;generalize nextR x.fin=l at dK z5 cO fV bG;refine au (kv rfl rfl (al oG bX) V.h V.h) ak ⟨V.h,oG⟩ ?_;refine bB (dC (d:=.rs _ _ _) (cs':=_) rfl rfl (al oG bX) rfl rfl) ak (cF V.h V.h (by first|(simp;done)|exact⟨rfl,aP rfl⟩|(simp;omega)) rfl) ?_;refine bE (by simp[apartT];omega) ?_;have e1:(gr f n k).set k (.rs (nx+1) 0 l.length)=(List.range n).map fun i=>if i=k then .rs (nx+1) 0 l.length else if i<k then ao (ah (aO f) i) else .z:=UH af
   rw[e1];refine aR (Jn (i:=nx+1) (e:=3) (cs:=l.map I++List.replicate (d.length - l.length) (I 0)) (l:=[(1,.pt (aX f)),(6,.rp 3 0),(7,I k),(28,dM f.blocks),(29,I n),(30,I k)]) (al oG (up_same _ _ _)) ⟨rfl,J7 oG,rfl,rfl,rfl,rfl,trivial⟩) (ax ?_)
   have N1:(fun j=>if j=nx+1 then none else(up (up M (nx+1) (some (.cells (l.map I++List.replicate (d.length - l.length) (I 0)) 3))) 1 (some (.cells ((List.range n).map fun i=>if i=k then .rs (nx+1) 0 l.length else if i<k then ao (ah (aO f) i) else .z) 27)) j).map (Row.sub (fz0 (nx+1) (l.map I++List.replicate (d.length - l.length) (I 0)) (prog.cellsOf 3)))) 1=some (.cells (gr f n (k+1)) 27):=by
    dsimp only;rw[if_neg oG,up_same];show some (Row.cells (List.map _ (List.map _ _)) 27)=_;rw[List.map_map,gr];refine congrArg (fun c=>some (Row.cells c 27)) (List.map_congr_left fun i _=>?_);simp only[Function.comp_apply];by_cases HN:i=k
    .subst HN;rw[if_pos rfl,if_pos oG,fV,c3,NM];simp[ao]
    .rw[if_neg HN];by_cases h2:i<k
     .rw[if_pos h2,if_pos oG];rfl
     .rw[if_neg h2,if_neg oG];rfl
   have N3:(fun j=>if j=nx+1 then none else(up (up M (nx+1) (some (.cells (l.map I++List.replicate (d.length - l.length) (I 0)) 3))) 1 (some (.cells ((List.range n).map fun i=>if i=k then .rs (nx+1) 0 l.length else if i<k then ao (ah (aO f) i) else .z) 27)) j).map (Row.sub (fz0 (nx+1) (l.map I++List.replicate (d.length - l.length) (I 0)) (prog.cellsOf 3)))) 3=some (.cells (fx f (.rs 1 0 n) (.rs 2 0 n) .z) 89):=by
    dsimp only;rw[if_neg oG,up_ne _ _ oG,up_ne _ _ oG,aj];refine congrArg some (jP.cells (X:=fun p=>p=nx+1) (fun d hd=>?_) _ _ _ rfl);simp only[fx,List.mem_cons,List.not_mem_nil,or_false] at hd;rcases hd with rfl|rfl|rfl|rfl|rfl|rfl|rfl|rfl|rfl|rfl|rfl
    .exact .s _
    .exact .s _
    .exact .s _
    .exact .s _
    .exact .sl _ _
    .exact .sl _ _
    .exact .sl _ _
    .exact .sl _ _
    .exact .rs oG
    .exact .rs oG
    .exact .z
   have NJ:fq (fun j=>if j=nx+1 then none else(up (up M (nx+1) (some (.cells (l.map I++List.replicate (d.length - l.length) (I 0)) 3))) 1 (some (.cells ((List.range n).map fun i=>if i=k then .rs (nx+1) 0 l.length else if i<k then ao (ah (aO f) i) else .z) 27)) j).map (Row.sub (fz0 (nx+1) (l.map I++List.replicate (d.length - l.length) (I 0)) (prog.cellsOf 3)))) (nx+2) 2 n 27 3 ρ (fun i=>(L0 i).map I):=by
    refine fq.fz ⟨?_,C.rC,fun i hi hl=>?_,C.lt,C.ne,C.inj⟩ (fun _=>.map) oG fun i hi hl=>by have:=Ao i hi hl;omega
    .exact al oG (al oG C.row)
    .have:=Ao i hi hl;exact al (J i hi hl).1 (al oG (C.sP i hi hl))
   clear aj bX C e1;generalize (fun j=>if j=nx+1 then none else(up (up M (nx+1) (some (.cells (l.map I++List.replicate (d.length - l.length) (I 0)) 3))) 1 (some (.cells ((List.range n).map fun i=>if i=k then .rs (nx+1) 0 l.length else if i<k then ao (ah (aO f) i) else .z) 27)) j).map (Row.sub (fz0 (nx+1) (l.map I++List.replicate (d.length - l.length) (I 0)) (prog.cellsOf 3))))=m at N1 N3 NJ ⊢;have aj:=N3;have bX:=N1
   have kd:(gr f n (k+1)).drop k=ao l::(gr f n (k+1)).drop (k+1):=by
    rw[List.drop_eq_getElem_cons oP];congr 1;simp[gr,fV]
   refine aN ?_;have Q9:l.length<=10:=by omega
   clear kd aj bX hx HE Q8 hle z5 gD bG zF
   refine aa (cG (α:=Nat×Mem×Nat)
    (fun j=>⟨aw [(1,.pt (aX f)),(6,.rp 3 0),(7,I k),(28,dM f.blocks),(29,I n),(30,I k),(54,ao l),(55,I l.length),(56,I j.1)],j.2.1,j.2.2⟩)
    (fun j=>j.1<=l.length/\4<=j.2.2/\j.2.1 1=some (.cells (gr f n (k+1)) 27)/\j.2.1 3=some (.cells (fx f (.rs 1 0 n) (.rs 2 0 n) .z) 89)/\(∃ ρ,fq j.2.1 j.2.2 2 n 27 3 ρ (fun i=>((l.take j.1).foldl (dT k) L0 i).map I)/\(∀ i,i<n->((l.take j.1).foldl (dT k) L0 i).map I≠[]->ρ i≠1/\ρ i≠3))/\∀ i,((l.take j.1).foldl (dT k) L0 i).length<=12*k+j.1) (fun j=>l.length - j.1) (0,m,nx+2)
    (aq eH) ⟨Nat.zero_le _,oM,N1,N3,⟨ρ,NJ,J⟩,hlen⟩ ?_)
   clear N1 N3 NJ hlen J Ao dx;rintro⟨j,m,nx⟩ ⟨hj,dx,m1,m3,⟨ρ,C,J⟩,hlen⟩;dsimp only at hj dx m1 m3 C J hlen ⊢;have aj:=C.row;have bX:=m3;have dy:=C.rC;have fB:∀ t,l[j]? =some t->(l.take (j+1)).foldl (dT k) L0=dT k ((l.take j).foldl (dT k) L0) t:=fun t ht=>rG ht;have sw:j=l.length->(l.take j).foldl (dT k) L0=bw f.blocks (k+1):=fun e=>by rw[cO,ez oG]
   generalize (l.take j).foldl (dT k) L0=L at C J hlen aj fB sw;refine SS ?_;refine aa ⟨_,rfl,fun h=>?_,fun h=>?_⟩
   .have zB:j<l.length:=by simpa using h
    have rm:l[j]? =some l[j]:=aK zB;have rB:=dK _ (cZ zB);generalize l[j]=t at rm rB;obtain⟨i,rfl⟩:=dd rB.1;have bc:i<n:=rB.2;have hL:=hlen i;have fB:(l.take (j+1)).foldl (dT k) L0=up L i (L i++[(k:Int)]):=fB _ rm
    have sm:∀ i,((l.take (j+1)).foldl (dT k) L0 i).length<=12*k+(j+1):=fun a=>by
     rw[fB];exact Dx (t:=(i:Int)) hlen a
    have An:(fun a=>((l.take (j+1)).foldl (dT k) L0 a).map I)=up (fun a=>(L a).map I) i ((L i++[(k:Int)]).map I):=by rw[fB];exact LZ
    obtain⟨cs,kd⟩:=J2 (ρ:=ρ) (L:=fun i=>(L i).map I) bc
    have Ra:∀ a,a<n->((l.take (j+1)).foldl (dT k) L0 a).map I≠[]->up ρ i (nx+1) a≠1/\up ρ i (nx+1) a≠3:=fun a ha ap=>by
     simp only[up];split
     .omega
     .rename_i eX;refine J a ha ?_;rw[fB,up_ne _ _ eX] at ap;exact ap
    refine ws ?_;refine av ?_;refine aa (p8 TD ?_);by_cases hz:L i=[]
    .have ve:jc (ρ i) ((L i).map I)=.z:=by rw[hz];rfl
     rw[ve] at kd;refine aN ?_;refine bC ?_;refine Pd ?_;refine Pe ?_;refine bE (by simp[apartT];omega) ?_;refine ab ?_;refine aa (aJ (j+1,up (up (up m nx (some (.cells [I k] 3))) (nx+1) (some (.cells [I k] 3))) 2 (some (.cells ((l5 ρ (fun i=>(L i).map I) n).set i (.rs (nx+1) 0 1)) 27)),nx+2) (aq eH) ⟨oM,oM,?_,?_,⟨up ρ i (nx+1),?_,Ra⟩,sm⟩ oM)
     .dsimp only;exact al oG (al oG (al oG m1))
     .dsimp only;exact al oG (al oG (al oG m3))
     dsimp only;rw[An];refine C.iC bc oS oG oG ?_ ?_ (fun q hq tE _=>?_)
     .rw[hz];exact up_same _ _ _
     .rw[hz];exact al oG (up_same _ _ _)
     .exact al oG (al oG (al oG rfl))
    .have ap:(L i).map I≠[]:=by simpa using hz
     have ve:jc (ρ i) ((L i).map I)=.rs (ρ i) 0 (L i).length:=by rw[nZ ap,List.length_map]
     rw[ve] at kd;have dZ:=C.sP i bc ap;have Ao:=C.lt i bc ap;have hρ2:=C.ne i bc ap;obtain⟨hρ1,hρ3⟩:=J i bc ap;refine aN ?_;refine aQ ?_;refine sH (r5 rfl (al oG dZ) rfl V.h V.h (rH (up_same _ _ _) rfl) rfl) ak ⟨V.h,rfl,(by first|omega|exact aP rfl|(simp;done)|(simp;omega)),oC,(by first|rfl|(simp;done)|(simp;omega)),(by unfold maxLen;first|omega|(simp;omega)),(by rw[b3];first|omega|(simp;omega)),(by first|(simp;done)|(simp;omega))⟩ ?_;refine Pf ?_;refine Pg ?_;refine bE (by simp[apartT];omega) ?_;refine ab ?_;refine aa (aJ (j+1,up (up (up (up m nx (some (.cells [I k] 3))) (ρ i) none) (nx+1) (some (.cells ((L i).map I++[I k]) 3))) 2 (some (.cells ((l5 ρ (fun i=>(L i).map I) n).set i (.rs (nx+1) 0 ((L i).length+1))) 27)),nx+2) (aq eH) ⟨oM,oM,?_,?_,⟨up ρ i (nx+1),?_,Ra⟩,sm⟩ oM)
     .dsimp only;exact al oG (al oG (al oG (al oG m1)))
     .dsimp only;exact al oG (al oG (al oG (al oG m3)))
     dsimp only;rw[An];refine C.iC bc oS oG oG ?_ ?_ (fun q hq tE qZ=>?_)
     .rw[List.length_map,List.length_append];exact up_same _ _ _
     .rw[List.map_append];exact al oG (up_same _ _ _)
     .have:=qZ ap;exact al oG (al oG (al oG (al oG rfl)))
   .have ba:¬ j<l.length:=by simpa using h
    have vl:=sw oG;subst vl;show AOps _ _ _ _ _ _ _ _ _;refine ab ?_;refine aa (aJ (k+1,m,nx) (aq eH) ⟨oM,dx,m1,m3,⟨ρ,C,J⟩,fun i=>by have:=hlen i;dsimp only at this ⊢;omega⟩ oM)
  .have ba:¬ k<n:=by simpa using h
   have:k=n:=by omega
   subst this;exact⟨m,nx,ρ,aq eH,dx,m1,m3,C,J⟩
 .rintro s ⟨m,nx,ρ,hg,dx,m1,m3,C,J⟩;have tD:¬ ∃ i,i<n/\(bw f.blocks n i).map I≠[]/\ρ i=2:=fun⟨i,h1,h2,h3⟩=>C.ne i h1 h2 h3;have Rb:¬ ∃ i,i<n/\(bw f.blocks n i).map I≠[]/\ρ i=1:=fun⟨i,h1,h2,h3⟩=>(J i h1 h2).1 h3;have Rc:¬ ∃ i,i<n/\(bw f.blocks n i).map I≠[]/\ρ i=3:=fun⟨i,h1,h2,h3⟩=>(J i h1 h2).2 h3;have z1:=hg.trans (Jh (l:=[(6,.rp 3 0)]) (ml:=[(1,.cells (gr f n n) 27),(3,.cells (fx f (.rs 1 0 n) (.rs 2 0 n) .z) 89)]) (fun r=>∃ i,i<n/\(bw f.blocks n i).map I≠[]/\ρ i=r) C (fun _=>.map) c3 (fun i h1 h2=>⟨i,h1,h2,rfl⟩) tD ⟨rfl,trivial⟩ (fun x hx=>by simp at hx;subst hx;exact .rp Rc) ⟨m1,m3,trivial⟩ (fun x hx=>?_))
  rotate_left
  .simp only[List.mem_cons,List.not_mem_nil,or_false] at hx;rcases hx with rfl|rfl
   .refine⟨jP.cells fun d hd=>?_,Rb⟩;obtain⟨i,_,rfl⟩:=List.mem_map.1 hd;split
    .exact .sl _ _
    .exact .z
   .refine⟨jP.cells fun d hd=>?_,Rc⟩;simp only[fx,List.mem_cons,List.not_mem_nil,or_false] at hd;rcases hd with rfl|rfl|rfl|rfl|rfl|rfl|rfl|rfl|rfl|rfl|rfl
    .exact .s _
    .exact .s _
    .exact .s _
    .exact .s _
    .exact .sl _ _
    .exact .sl _ _
    .exact .sl _ _
    .exact .sl _ _
    .exact .rs Rb
    .exact .rs tD
    .exact .z
  have hbc:gr f n n=(aO f).map ao:=by
   unfold gr aO;refine List.ext_getElem (by simp[hn]) fun i h1 h2=>?_;have hi:i<n:=by simpa using h1
   simp only[List.getElem_map,List.getElem_range,hi,if_true];exact congrArg ao (rL (aK oG))
  have HO:=z1.trans (oX (i:=1) (e:=27) (cs:=gr f n n) (l:=[(6,.rp 3 0)]) (ml:=[(2,.cells ((List.range n).map fun i=>.sl ((bw f.blocks n i).map I) ((bw f.blocks n i).map I).length) 27),(3,.cells (fx f (bR (aO f)) (.rs 2 0 n) .z) 89)]) rfl eH ⟨?_,?_,trivial⟩)
  rotate_left
  .refine J5 oG rfl (jP.cells (X:=fun p=>p=1) (fun d hd=>?_) _ _ _ rfl);obtain⟨i,_,rfl⟩:=List.mem_map.1 hd;exact .sl _ _
  .show some (Row.cells (List.map _ (fx f (.rs 1 0 n) (.rs 2 0 n) .z)) 89)=_
   have e1:sub (fz0 1 (gr f n n) (prog.cellsOf 27)) (.rs 1 0 n)=bR (aO f):=by
    rw[nA (by rw[xF];simp),hbc,bR,show(aO f).length=n by simp[aO,hn]]
   have e2:sub (fz0 1 (gr f n n) (prog.cellsOf 27)) (.rs 2 0 n)=.rs 2 0 n:=AV oG;simp only[fx,List.map_cons,List.map_nil,e1,e2];rfl
  have hg3:=HO.trans (oX (i:=2) (e:=27) (cs:=(List.range n).map fun i=>.sl ((bw f.blocks n i).map I) ((bw f.blocks n i).map I).length) (l:=[(6,.rp 3 0)]) (ml:=[(3,.cells (fx f (bR (aO f)) (bR (bu f.blocks)) .z) 89)]) rfl eH ⟨?_,trivial⟩)
  rotate_left
  .show some (Row.cells (List.map _ (fx f (bR (aO f)) (.rs 2 0 n) .z)) 89)=_
   have e1:sub (fz0 2 ((List.range n).map fun i=>.sl ((bw f.blocks n i).map I) ((bw f.blocks n i).map I).length) (prog.cellsOf 27)) (.rs 2 0 n)=bR (bu f.blocks):=by
    rw[nA (by rw[xF];simp),D7,bu,hn]
   simp only[fx,List.map_cons,List.map_nil,e1];rfl
  refine⟨_,hg3,ax ?_⟩;have Ci:=Ci (f:=f) (beh:=aO f) (ahd:=bu f.blocks) (c:=.z) (w:= -1) .z rfl (by simp[aO,hn]) hn (by have:=bz.pos;omega) oG rE bV;have pS:=vB (w:= -1) rE (by have:=bz.pos;omega);have rj:nP f=aM f (aO f) (bu f.blocks) (dk (b8 (ah (aO f)) n (-1))):=by rw[nP,hn]
  rw[rj];generalize b8 (ah (aO f)) n (-1)=R at Ci pS ⊢;refine ab ?_;refine gW (RI (rds:=[3]) (args:=[.rp 3 0,I (-1)]) (args':=[.pt (aM f (aO f) (bu f.blocks) .z),I (-1)]) ⟨MK (cs:=aM f (aO f) (bu f.blocks) .z) rfl oS rfl (DI .z),bQ (.s _),trivial⟩ Ci (fun d hd=>by obtain⟨x,_,rfl⟩:=List.mem_map.1 hd;rfl)) rfl bF fun d m' nx' hp=>?_;obtain⟨rfl,rfl,rfl⟩:=hp;have aj:up (bi [(3,.cells (fx f (bR (aO f)) (bR (bu f.blocks)) .z) 89)]) nx (some (.cells (R.map B) 4)) 3=some (.cells (fx f (bR (aO f)) (bR (bu f.blocks)) .z) 89):=al oG rfl;refine ab ?_;refine bB (dC (d:=.rs _ _ _) (cs':=_) rfl rfl aj rfl rfl) ak (cF V.h V.h (by first|(simp;done)|exact⟨rfl,aP rfl⟩|(simp;omega)) rfl) ?_;refine aa ?_
  have e0:(fun j=>if j=nx then none else(up (up (bi [(3,.cells (fx f (bR (aO f)) (bR (bu f.blocks)) .z) 89)]) nx (some (.cells (R.map B) 4))) 3 (some (.cells (fx f (bR (aO f)) (bR (bu f.blocks)) (.rs nx 0 n)) 89)) j).map (Row.sub (fz0 nx (R.map B) (prog.cellsOf 4)))) 3=some (.cells (fx f (bR (aO f)) (bR (bu f.blocks)) (dk R)) 89):=by
   dsimp only;rw[if_neg oG,up_same];show some (Row.cells (List.map _ (fx f (bR (aO f)) (bR (bu f.blocks)) (.rs nx 0 n))) 89)=_
   have e1:sub (fz0 nx (R.map B) (prog.cellsOf 4)) (.rs nx 0 n)=dk R:=by
    rw[nA (by rw[c4];simp[pS]),dk,pS]
   simp only[fx,List.map_cons,List.map_nil,e1];rfl
  refine⟨_,(Jn (i:=nx) (e:=4) (cs:=R.map B) (l:=[(6,.rp 3 0)]) (al oG (up_same _ _ _)) ⟨J7 oG,trivial⟩).trans (o5 (i:=3) (l:=[(6,.pt (aM f (aO f) (bu f.blocks) (dk R)))]) e0 ⟨qw,trivial⟩),ai ?_⟩;refine av ?_;exact aa (iH rfl rfl rfl)
end Go.Proofs.Tryz.K
end
namespace Go.Argus
open Go Go.Abs
structure LG where
 beh:Nat->List Int
 blk:Nat->ca
 Ry:Nat->Int->List Int
 Rz:Nat->Int->Int
def E2(l:List Int):Prop:=∀ r∈l,0<=r/\r<1216
structure Zt(y:bN):Prop where
 rd:E2 (cX y)
 wr:fZ y<1216
structure abo(g:LG)(n:Nat):Prop where
 beh:∀ b,∀ c∈g.beh b,0<=c/\c.toNat<n
 ins:∀ b,∀ y∈(g.blk b).ins,Zt y
 Ry:∀ b,∀ c∈g.beh b,E2 (g.Ry b c)
 Rz:∀ b,∀ c∈g.beh b,g.Rz b c<1216
 red:∀ b,E2 (cM (g.blk b).fin)
section
variable{g:LG}{n:Nat}
end
end Go.Argus
namespace Go.Argus
section
variable{g:LG}{n:Nat}{ord:List Int}
end
end Go.Argus
section
open Go Go.Abs Go.Proofs Go.Argus
namespace Go.Argus
def Ck(f:aC)(c:Nat):List Int:=bw f.blocks f.blocks.length c
def pC(f:aC)(b:Nat):ca:=f.blocks.getD b lX
def lgR(f:aC):LG:=⟨ah (aO f),pC f,fun b c=>WA (Ck f c.toNat) b (pC f c.toNat),fun b c=>A' (pC f b).fin c⟩
theorem Ea{f:aC}{b:Nat}{x:ca}(h:f.blocks[b]? =some x):pC f b=x:=getD_some h
theorem Jo{f:aC}{b:Nat}(h:f.blocks.length<=b):pC f b=lX:=by
 unfold pC;rw[aV,List.getElem?_eq_none h];rfl
theorem L3{α:Type}{p:α->Bool}{y:α}:∀ {l:List α},y∈l.takeWhile p->p y=true
 |[],h=>by simp at h
 |a::l,h=>by
  rw[List.takeWhile_cons] at h;split at h
  .rename_i ha;rcases List.mem_cons.1 h with e|e
   .subst e;exact ha
   .exact L3 e
  .simp at h
theorem UJ{x:ca}{y:bN}(h:y∈zm x):y.op=19:=by simpa[fC] using L3 h
theorem TE{x:ca}{y:bN}(h:y∈zm x):y∈x.ins:=(List.takeWhile_prefix fC).subset h
theorem lT.abm{f:aC}(h:lT f){b:Nat}{x:ca}(hx:f.blocks[b]? =some x){y:bN}(hy:y∈zm x):y.args.length=(Ck f b).length/\∀ r∈y.args,0<=r/\r<1200:=by
 obtain⟨j,hj⟩:=cU (TE hy);obtain⟨h1,_,_,_,h2⟩:=(Dl h.aL h.cv.1 h.cv.2 (h.right b x hx j y hj)).2 (UJ hy);refine⟨by unfold Ck;omega,fun r hr=>?_⟩;have:=(h2 r hr).2;unfold gY at this;have:=h.aL;omega
def abn(f:aC):List Int:=(bH (ah (aO f)) f.blocks.length).reverse
end Go.Argus
namespace Go.Proofs.Tryz.K
set_option maxRecDepth 10000
theorem lg_ok{f:aC}(h:lT f):abo (lgR f) f.blocks.length:=by
 have J:∀ b,∀ y∈(pC f b).ins,lW y:=fun b y hy=>by
  cases hx:f.blocks[b]? with
  |none=>rw[Jo (List.getElem?_eq_none_iff.1 hx)] at hy;simp[lX] at hy
  |some x=>rw[Ea hx] at hy;exact(h.blk x (bJ hx)).ins y hy
 have C:∀ b,b<f.blocks.length->wE (pC f b).fin:=fun b hb=>by
  rw[Ea (aK hb)];exact(h.ends _ (cZ hb)).fin
 refine⟨beh_in h,fun b y hy=>?_,fun b c hc=>?_,fun b c hc=>?_,fun b=>?_⟩
 .have:=J b y hy;exact⟨fun r hr=>by have:=this.rd r hr;omega,by have:=this.wr;omega⟩
 .have M:=beh_in h b c hc;have hx:=aK M.2;intro r hr;obtain⟨y,hy,rfl⟩:=List.mem_map.1 hr;rw[Ea hx] at hy;obtain⟨e1,e2⟩:=h.abm hx hy;rw[aV];cases e:y.args[(j3 (fun z=>(b:Int)==z) (Ck f c.toNat)).toNat]? with
  |none=>simp
  |some v=>
   have:=e2 v (bJ e);simp only[Option.getD_some];omega
 .show A' _ _<1216
  have hb:b<f.blocks.length:=by
   rcases Nat.lt_or_ge b f.blocks.length with g|g
   .exact g
   .have hc:c∈ah (aO f) b:=hc;rw[AU g] at hc;simp at hc
  have:=(C b hb).wr;show A' (pC f b).fin c<1216;unfold A';split<;>omega
 .intro r hr;have hr:r∈cM (pC f b).fin:=hr;rcases Nat.lt_or_ge b f.blocks.length with g|g
  .have:=(C b g).rd r hr;omega
  .rw[Jo g] at hr;simp[lX,cM,aW] at hr
theorem ord_in{f:aC}(h:lT f):∀ b∈abn f,0<=b/\b.toNat<f.blocks.length:=fun b hb=>by
 have C:=h.pos;have hb:=(DL (beh_in h) C).1 (List.mem_reverse.1 hb);refine⟨hb.1,?_⟩;have hl:=vB (w:= -1) (beh_in h) C;rcases Nat.lt_or_ge b.toNat f.blocks.length with g|g
 .exact g
 .rw[aV,List.getElem?_eq_none oG] at hb;simp at hb
theorem Bk{f:aC}(C:bW f≠0):PCall prog 51 [.agg (aX f)] (.tup [.s (.pointer none),I (bW f)]):=by
 have tF:=tF (f:=f);generalize bW f=e at tF C;have fR:(e !=0)=true:=by simpa using C
 refine bd Gv (.cons (.agg (jL f)) .nil) (.tup (.cons (.s _) (.cons (.s _) .nil))) ?_;rw[PA];refine ax ?_;refine av ?_;refine aa (aR (cE [(0,aX f,26)] eH (l:=[(1,.pt (aX f))]) eH) (aB (ai ?_)));refine SS ?_;refine cl tF ?_;refine SS ?_;refine aa (aB (ai ?_));refine ab ?_;refine aa (fA ?_);refine aB (ai ?_);refine av ?_;exact aa (c8 (iH rfl rfl rfl))
end Go.Proofs.Tryz.K
end
namespace Go.Argus
open Go Go.Abs
open Go.Proofs.Tryz.K (nextR lg_ok beh_in ord_in)
theorem vA:∀ {n:Nat} {l:List Int},l.Nodup->(∀ x∈l,0<=x/\x.toNat<n)->l.length<=n
 |0,l,_,h=>by
  cases l with
  |nil=>simp
  |cons a l=>have:=h a oS;omega
 |n+1,l,hd,h=>by
  by_cases hm:(n:Int)∈l
  .have h1:=vA (n:=n) (l:=l.erase n) (hd.erase _) fun x hx=>by
    have C:=(hd.mem_erase_iff).1 hx;have:=h x C.2;have:=C.1;omega
   rw[List.length_erase_of_mem hm] at h1;omega
  .have h1:=vA (n:=n) (l:=l) hd fun x hx=>by
    have:=h x hx;have:x≠n:=fun e=>hm (e▸hx);omega
   omega
end Go.Argus
section
open Go Go.Abs Go.Proofs Go.Argus
namespace Go.Abs
section
variable{P:Program}{m:Mem}{nx:Nat}
def nQ(P:Program)(f:FuncId)(args:List D)(bA:D->Prop):Prop:=
 enterOk P f=true/\(∀ a∈args,Tr a)/\∀ F w vs,(∀ b,F b->b<w.heap.size)->Rs F noRows w args vs->
  Calls P f vs w fun e w'=>∃ v r,bA r/\e=.returned v/\R F noRows w' r v/\Kept w w'
theorem TF{fn:Func}(J:P.follows .mixedOrders=true){f:FuncId}{c:Code}(hf:jz P f fn c){args:List D}(hn:Nat.ble args.length fn.ntmps=true)(ht:∀ a∈args,Tr a){bA:D->Prop}(hr:∀ r,bA r->Tr r)
 (h:AW P noY true c (retQ P fn.results.toList fun d _=>bA d) ⟨envOf args,fun _=>none,0⟩):nQ P f args bA:=
 ⟨hf.he,ht,fun F w vs hF hR=>(vD J hf.hf hf.hb hf.af hn h (fun _ _ _ _ _ h=>h.elim) (AP hF) (fun _ _=>rfl) hR).mono fun e w' hp=>by
  obtain⟨v,d,st',β',h1,hd,h3,h4,h5,C,M,h8⟩:=hp
  exact⟨v,d,hd,h1,(hr d hd).zg h3,AI C⟩⟩
theorem Sz{f:FuncId}{args:List D}{bA:D->Prop}(hc:nQ P f args bA):ACalls P f args m nx (fun d m' nx'=>bA d/\m'=m/\nx'=nx):=
 ⟨hc.1,fun F β w vs hm C hR=>(hc.2.2 (owned F β) w vs (fun b hb=>owned_lt hm hb) ⟨hR.1,fun k d v hd hv=>hc.2.1 d (bJ hd) F β w v (hR.2 k d v hd hv)⟩).mono
  fun e w' ⟨v,r,hp,he,hr,hk⟩=>⟨v,r,m,nx,β,he,⟨hp,rfl,rfl⟩,hm.kept hk,C,hr.lift fun b hb=>owned_free hb,kept_step hk,aU _,fun i _ h=>h⟩⟩
end
theorem LU{id i:Nat}{Q:Exit->St->Prop}{s:St}(C:i≠id)(h:Q (.exit i) s):blockQ id Q (.exit i) s:=by simp only[blockQ,if_neg C];exact h
end Go.Abs
namespace Go.Proofs.Tryz.K
theorem Hh{f:FuncId}{fn:Func}{c:Code}(hf:jz Tryz.prog f fn c){args:List D}(ht:∀ a∈args,Tr a){bA:D->Prop}(hr:∀ r,bA r->Tr r)(h:AW Tryz.prog noY true c (retQ Tryz.prog fn.results.toList fun d _=>bA d) ⟨envOf args,fun _=>none,0⟩)(hn:Nat.ble args.length fn.ntmps=true:=by kernel_rfl):nQ Tryz.prog f args bA:=TF mixed hf hn ht hr h
end Go.Proofs.Tryz.K
namespace Go.Argus
def L4(f:aC)(b r:Int):Prop:=k5 f.blocks.length b=true/\0<=r/\r<f.aL.length
instance(f:aC)(b r:Int):Decidable (L4 f b r):=by unfold L4;infer_instance
theorem hd9:∀ a b c d e f g h i:Bool,(if(if(if(if(if(if(if a=true then b else false)=true then true else c)=true then true else(if d=true then e else false))=true then true else f)=true then true else g)=true then true else h)=true then true else i)=((a&&b)||(c||((d&&e)||(f||(g||(h||i)))))):=by decide
theorem abp:∀ a b c d e:Bool,(if(if(if(if a=true then true else b)=true then true else c)=true then true else d)=true then true else e)=(a||(b||(c||(d||e)))):=by decide
def wZ(f:aC):Bool:=(decide (24<(f.blocks.length:Int))&&decide ((f.blocks.length:Int)<=1200))||(decide (1210<(f.blocks.length:Int))||((decide (14<(f.aL.length:Int))&&decide ((f.aL.length:Int)<=1200))||(decide (1210<(f.aL.length:Int))||(decide (130<(f.name.size:Int))||(decide (70<(f.cv.length:Int))||decide (10<(f.signals.length:Int)))))))
def pb(b:ca):Bool:=decide (12<(b.ins.length:Int))||(decide (8<(b.fin.aE.length:Int))||(decide (10<(b.fin.args.length:Int))||(decide (130<(b.fin.name.size:Int))||decide (10<(b.fin.ins.args.length:Int)))))
def nU(y:bN):Bool:=decide (26<(y.args.length:Int))
def qJ(f:aC):Bool:= !(wZ f)&&(f.signals.all (fun s=> !(decide (20<(s.size:Int))))&&f.blocks.all (fun b=> !(pb b)&&b.ins.all fun y=> !(nU y)))
theorem aeP{f:aC}(h:qJ f=true):f.blocks.length<=24\/1200<f.blocks.length:=by
 unfold qJ wZ at h;simp only[aG,Bool.not_eq_true',Bool.or_eq_false_iff] at h;have h1:=h.1.1;by_cases h2:24<f.blocks.length
 .by_cases h3:f.blocks.length<=1200
  .simp at h1;omega
  .omega
 .omega
def allI(cnt:List Bool)(k:Nat):List Int:=((List.range k).filter fun i=>cnt.getD i false).map fun(i:Nat)=>(i:Int)
theorem DM(cnt:List Bool)(k:Nat):allI cnt (k+1)=if cnt.getD k false=true then allI cnt k++[(k:Int)] else allI cnt k:=by
 unfold allI;rw[List.range_succ,List.filter_append,List.map_append];by_cases h:cnt.getD k false=true
 .rw[if_pos h,List.filter_cons_of_pos (by exact h)];rfl
 .rw[if_neg h,List.filter_cons_of_neg (by exact h),List.filter_nil,List.map_nil,List.append_nil]
theorem J9(cnt:List Bool):∀ {k n:Nat},k<=n->∃ t,allI cnt n=allI cnt k++t
 |k,0,h=>by
  have:k=0:=by omega
  subst this;exact⟨[],oS⟩
 |k,n+1,h=>by
  rcases Nat.lt_or_ge k (n+1) with g|g
  .obtain⟨t,ht⟩:=J9 cnt (k:=k) (n:=n) oG;rw[DM];split
   .exact⟨t++[(n:Int)],by rw[ht,List.append_assoc]⟩
   .exact⟨t,ht⟩
  .have:k=n+1:=by omega
   subst this;exact⟨[],oS⟩
theorem VH{cnt:List Bool}{k n:Nat}(hk:k<n)(hc:cnt.getD k false=true):(allI cnt n)[(allI cnt k).length]? =some (k:Int):=by
 obtain⟨t,ht⟩:=J9 cnt (k:=k+1) (n:=n) oG;rw[ht,DM,if_pos hc,List.append_assoc,List.getElem?_append_right (aU _),Nat.sub_self];rfl
def zJ(k a to iz:Int)(x:bN):End:=⟨k,a,0,to,iz,⟨#[]⟩,x,[],[], -1⟩
def l6:aC:=⟨⟨#[115,117,109]⟩,false,1,1,[1,1,1],[],[],[⟨[⟨1,1,0,0,0,[]⟩],zJ 1 0 1 0 qj⟩,⟨[],zJ 2 0 2 3 qj⟩,⟨[⟨1,2,0,0, -1,[]⟩],zJ 5 0 4 0 ⟨30,1,1,0,0,[]⟩⟩,⟨[],zJ 3 1 0 0 qj⟩,⟨[],zJ 5 0 1 0 ⟨30,0,0,2,0,[]⟩⟩]⟩
def qN:List D:=aM l6 [[1],[2,3],[4],[],[1]] [[],[0,4],[1],[1],[2]] (dk [true,true,true,true,true])
end Go.Argus
namespace Go.Proofs.Tryz.K
set_option maxRecDepth 10000
set_option maxHeartbeats 1000000 in
theorem xH{f:aC}:PCall prog 15 [.agg (aX f)] (B (qJ f)):=by
 have aH:∀ a∈[D.agg (aX f)],Tr a:=.cons (.agg (jL f)) .nil;refine bd abq aH (Tr.s _) ?_;rw[abr];refine ax ?_;refine ab ?_;refine aa (aR (cE [(0,aX f,26)] eH (l:=[(1,.pt (aX f))]) eH) (aB (ax ?_)));refine aN ?_;refine aN ?_;refine aN ?_;refine cy ?_;refine ab ?_;refine aT rfl rfl (EL rfl) (fun hc=>⟨ak,V.h⟩) ?_;refine aN ?_;refine aQ ?_;have hd:wZ f=_:=(hd9 (decide (24<(f.blocks.length:Int))) (decide ((f.blocks.length:Int)<=1200)) (decide (1210<(f.blocks.length:Int))) (decide (14<(f.aL.length:Int))) (decide ((f.aL.length:Int)<=1200)) (decide (1210<(f.aL.length:Int))) (decide (130<(f.name.size:Int))) (decide (70<(f.cv.length:Int))) (decide (10<(f.signals.length:Int)))).symm;refine aa ⟨_,.refl _,c6 rfl (fun h=>?_) fun h=>cu (aB (ax ?_))⟩
 .have h1:wZ f=true:=hd.trans h;refine aB (ai ?_);refine SS ?_;refine aa (c8 (az (d:=B false) rfl ?_));rw[qJ,h1];rfl
 have h1:wZ f=false:=hd.trans h;clear hd h
 have aeZ:f.blocks.length<=100000/\f.signals.length<=100000:=by
  unfold wZ at h1;simp only[Bool.or_eq_false_iff,decide_eq_false_iff_not] at h1;omega
 refine SS ?_
 refine aa (cN (fun s=>Ghost prog s ⟨aw [(1,.pt (aX f))],fun _=>none,1⟩/\f.signals.all (fun s=> !(decide (20<(s.size:Int))))=true) (lk (α:=Nat) (fun k=>⟨aw [(1,.pt (aX f)),(3,I k)],fun _=>none,1⟩)
  (fun k=>k<=f.signals.length/\(f.signals.take k).all (fun s=> !(decide (20<(s.size:Int))))=true) (fun k=>f.signals.length - k) 0 (aq eH) ⟨oG,rfl⟩ ?_) ?_)
 .rintro k ⟨hk,hinv⟩;refine aQ ?_;refine aa ⟨_,rfl,fun h=>?_,fun h=>?_⟩
  .have af:k<f.signals.length:=by simpa using h
   have hx:f.signals[k]? =some f.signals[k]:=by simp[af]
   have J:f.signals[k]∈f.signals:=cZ _;generalize f.signals[k]=x at hx J;refine ws ?_;refine eW ?_;refine aa (aD rfl (fun hp=>?_) fun hp=>?_)
   .refine ws ?_;refine SS ?_;refine aa (bq (cz (bl (az (d:=B false) rfl ?_))))
    have:f.signals.all (fun s=> !(decide (20<(s.size:Int))))=false:=by
     refine Bool.eq_false_iff.2 fun ht=>?_;have:=bh.1 ht x J;rw[hp] at this;cases this
    rw[qJ,this];simp
   .refine cI ?_;refine av ?_;refine aa (aJ (k+1) (aq eH) ⟨oG,?_⟩ oG);rw[List.take_add_one,hx,List.all_append,hinv];show(true&&(!(decide (20<(x.size:Int)))&&true))=true;rw[hp];rfl
  .have ba:¬ k<f.signals.length:=by simpa using h
   rw[ez oG] at hinv;exact⟨aq eH,hinv⟩
 rintro s ⟨hg,M⟩;refine⟨_,hg,aB (ax ?_)⟩;refine SS ?_
 refine aa (cN (fun s=>(∃ nx,Ghost prog s ⟨aw [],fun _=>none,nx⟩)/\f.blocks.all (fun b=> !(pb b)&&b.ins.all fun y=> !(nU y))=true) (lk (α:=Nat×Nat) (fun k=>⟨aw [(1,.pt (aX f)),(4,I k.1)],fun _=>none,k.2⟩)
  (fun k=>k.1<=f.blocks.length/\(f.blocks.take k.1).all (fun b=> !(pb b)&&b.ins.all fun y=> !(nU y))=true) (fun k=>f.blocks.length - k.1) (0,1) (aq eH) ⟨Nat.zero_le _,rfl⟩ ?_) ?_)
 .rintro⟨k,nx⟩ ⟨hk,hinv⟩;dsimp only at hk hinv ⊢;refine aQ ?_;refine aa ⟨_,rfl,fun h=>?_,fun h=>?_⟩
  .have af:k<f.blocks.length:=by simpa using h
   have hx:f.blocks[k]? =some f.blocks[k]:=by simp[af]
   have J:f.blocks[k]∈f.blocks:=cZ _;generalize f.blocks[k]=x at hx J
   have C:(!(pb x)&&x.ins.all fun y=> !(nU y))=false->qJ f=false:=fun hb=>by
    have:f.blocks.all (fun b=> !(pb b)&&b.ins.all fun y=> !(nU y))=false:=by
     refine Bool.eq_false_iff.2 fun ht=>?_;have:=bh.1 ht x J;rw[hb] at this;cases this
    rw[qJ,this];simp
   refine ax ?_;refine eW ?_;refine aa (aR (o5 (i:=nx) (l:=[(1,.pt (aX f)),(4,I k),(5,.pt (dt x))]) (up_same _ _ _) ⟨rfl,rfl,qw,trivial⟩) (aB (ai ?_)));refine aN ?_;refine aN ?_;refine aI ?_;refine aT rfl rfl (EL rfl) (fun hc=>⟨ak,V.h⟩) ?_;refine cy ?_;refine ab ?_;have hd:pb x=_:=(abp (decide (12<(x.ins.length:Int))) (decide (8<(x.fin.aE.length:Int))) (decide (10<(x.fin.args.length:Int))) (decide (130<(x.fin.name.size:Int))) (decide (10<(x.fin.ins.args.length:Int)))).symm;refine aa (c6 rfl (fun h=>?_) fun h=>cu (ax ?_))
   .have hb:pb x=true:=hd.trans h;refine aB (ai ?_);refine SS ?_;refine aa (c8 (cz (bl (az (d:=B false) rfl ?_))));rw[C (by rw[hb];rfl)]
   .have hb:pb x=false:=hd.trans h;clear hd h
    have fg:x.ins.length<=100000:=by
     unfold pb at hb;simp only[Bool.or_eq_false_iff,decide_eq_false_iff_not] at hb;omega
    refine SS ?_
    refine aa (lk (α:=Nat) (fun j=>⟨aw [(1,.pt (aX f)),(4,I k),(5,.pt (dt x)),(6,I j)],fun _=>none,nx+1⟩)
     (fun j=>j<=x.ins.length/\(x.ins.take j).all (fun y=> !(nU y))=true) (fun j=>x.ins.length - j) 0 (aq eH) ⟨Nat.zero_le _,rfl⟩ ?_)
    rintro j ⟨hj,X⟩;refine aQ ?_;refine aa ⟨_,rfl,fun h=>?_,fun h=>?_⟩
    .have dy:j<x.ins.length:=by simpa using h
     have hy:x.ins[j]? =some x.ins[j]:=by simp[dy]
     have Ap:x.ins[j]∈x.ins:=cZ _;generalize x.ins[j]=y at hy Ap;refine ws ?_;refine cy ?_;refine aa (aD rfl (fun hp=>?_) fun hp=>?_)
     .have hp:nU y=true:=hp;refine ws ?_;refine SS ?_;refine aa (bq (cz (cz (bl (az (d:=B false) rfl ?_)))));rw[C]
      have:x.ins.all (fun y=> !(nU y))=false:=by
       refine Bool.eq_false_iff.2 fun ht=>?_;have:=bh.1 ht y Ap;rw[hp] at this;cases this
      rw[this];simp
     .have hp:nU y=false:=hp;refine cI ?_;refine av ?_;refine aa (aJ (j+1) (aq eH) ⟨oG,?_⟩ oG);rw[List.take_add_one,hy,List.all_append,X];show(true&&(!(nU y)&&true))=true;rw[hp];rfl
    .have ba:¬ j<x.ins.length:=by simpa using h
     rw[ez oG] at X;show AOps _ _ _ _ _ _ _ _ _;refine av ?_;refine aa (aJ (k+1,nx+1) (aq eH) ⟨oM,?_⟩ oM);dsimp only;rw[List.take_add_one,hx,List.all_append,hinv];show(true&&((!(pb x)&&x.ins.all fun y=> !(nU y))&&true))=true;rw[hb,X];rfl
  .have ba:¬ k<f.blocks.length:=by simpa using h
   rw[ez oG] at hinv;exact⟨⟨nx,aq trivial⟩,hinv⟩
 rintro s ⟨⟨nx,hg⟩,br⟩;refine⟨_,hg,ai ?_⟩;refine SS ?_;refine aa (az (d:=B true) rfl ?_);rw[qJ,h1,M,br];rfl
theorem rv{f:aC}{beh ahd:List (List Int)}{cnt:List Bool}(hlen:cnt.length<=100000):SeqA prog 61 [.pt (aM f beh ahd (dk cnt))] [] ((allI cnt cnt.length).map fun n=>[I n]):=by
 refine EM mixed PB kr fun L M Stop m nx hI X h0=>?_;rw[abu];refine ax ?_;refine bC ?_
 refine aa (cG (α:=Nat×Mem×Nat) (fun k=>⟨aw [(1,.fn (.yield L) [] []),(9,dk cnt),(10,I cnt.length),(11,I k.1)],k.2.1,k.2.2⟩)
  (fun k=>k.1<=cnt.length/\M (allI cnt k.1).length k.2.1 k.2.2) (fun k=>cnt.length - k.1) (0,m,nx) (aq eH) ⟨Nat.zero_le _,h0⟩ ?_)
 rintro⟨k,m,nx⟩ ⟨hk,C⟩;dsimp only at hk C ⊢;refine SS ?_;refine aa ⟨_,rfl,fun h=>?_,fun h=>?_⟩
 .have af:k<cnt.length:=by simpa using h
  have hx:cnt[k]? =some cnt[k]:=aK af;have hg:cnt.getD k false=cnt[k]:=getD_some hx;have hs:=DM cnt k
  have J:cnt.getD k false=true->((allI cnt cnt.length).map fun n=>[I n])[(allI cnt k).length]? =some [I k]:=fun h=>by
   rw[List.getElem?_map,VH af h];rfl
  rw[hg] at hs J;generalize cnt[k]=c at hx hs J;refine ws ?_;refine aQ ?_;refine er ?_;cases c with
  |false=>
   refine ab ?_;(iterate 4 refine z fun _ _=>?_);refine SS ?_;refine aa (gk (cI ?_));refine ab ?_;refine aa (aJ (k+1,m,nx) (aq eH) ⟨oM,?_⟩ oM);dsimp only;rw[hs];exact C
  |true=>
   refine aI ?_;refine BM rfl rfl rfl rfl bF ⟨rfl,_,J rfl,C,fun d m' nx' hp=>?_⟩;rcases hp with⟨rfl,hp⟩|⟨rfl,hp⟩
   .refine ab ?_;refine aa (gk (cI ?_));refine ab ?_;refine aa (aJ (k+1,m',nx') (aq eH) ⟨oM,?_⟩ oM);dsimp only;rw[hs,if_pos rfl,List.length_append];exact hp
   .refine ab ?_;exact aa (gI (bq (cz (qe (.inr hp)))))
 .have ba:¬ k<cnt.length:=by simpa using h
  have:k=cnt.length:=by omega
  subst this;exact lQ (.inl (by rw[List.length_map];exact C))
end Go.Proofs.Tryz.K
namespace Go.Abs
def CY:Value->Value->Bool
 | .int k n,.int k' n'=>decide (k=k')&&decide (n=n')
 | .bool a,.bool b=>a==b
 | .string a,.string b=>decide (a=b)
 |_,_=>false
theorem L5{a b:Value}(h:CY a b=true):a=b:=by
 unfold CY at h;split at h
 .rw[aG,decide_eq_true_eq,decide_eq_true_eq] at h;rw[h.1,h.2]
 .rw[show _=_ from eq_of_beq h]
 .rw[of_decide_eq_true h]
 .cases h
def iR(g:D->D->Bool):List D->List D->Bool
 |[],[]=>true
 |a::xs,b::bs=>g a b&&iR g xs bs
 |_,_=>false
def oR:Nat->D->D->Bool
 |0,_,_=>false
 |_+1,.s a,.s b=>CY a b
 |_+1,.z,.z=>true
 |_+1,.sl [] 0,.z=>true
 |k+1,.agg a,.agg b=>iR (oR k) a b
 |k+1,.tup a,.tup b=>iR (oR k) a b
 |k+1,.sl a n,.sl b m=>Nat.beq n m&&iR (oR k) a b
 |k+1,.pt a,.pt b=>iR (oR k) a b
 |_+1,_,_=>false
theorem tP{g:D->D->Bool}:∀ {xs bs:List D},iR g xs bs=true->xs.length=bs.length/\∀ (k:Nat) a,xs[k]? =some a->∃ b,bs[k]? =some b/\g a b=true
 |[],[],_=>⟨rfl,fun k a h=>by simp at h⟩
 |a::xs,b::bs,h=>by
  simp only[iR,aG] at h;obtain⟨h1,h2⟩:=tP h.2;refine⟨by simp[h1],fun k x hx=>?_⟩;cases k with
  |zero=>simp at hx;subst hx;exact⟨b,rfl,h.1⟩
  |succ k=>exact h2 k x (by simpa using hx)
 |[],_::_,h=>by simp[iR] at h
 |_::_,[],h=>by simp[iR] at h
theorem wH{F:Nat->Prop}{β:Pla}{w:World}:∀ (k:Nat) {a b:D} {v:Value},oR k a b=true->R F β w b v->R F β w a v
 |0,a,b,v,h,_=>by simp[oR] at h
 |k+1,a,b,v,h,hv=>by
  unfold oR at h;split at h
  .cases h
  .rename_i e;rw[L5 h];exact hv
  .exact hv
  .obtain⟨x,rfl⟩:=hv.z_inv;exact .sln x 0
  .rename_i a b e;cases e;obtain⟨h1,h2⟩:=tP h;cases hv with
   |agg _ vs hl hh=>
    refine .agg _ vs oG fun j d u hd hu=>?_;obtain⟨C,hb,hg⟩:=h2 j d hd;exact wH k hg (hh j C u hb hu)
  .rename_i a b e;cases e;obtain⟨h1,h2⟩:=tP h;cases hv with
   |tup _ vs hl hh=>
    refine .tup _ vs oG fun j d u hd hu=>?_;obtain⟨C,hb,hg⟩:=h2 j d hd;exact wH k hg (hh j C u hb hu)
  .rename_i a n b m e;cases e;rw[aG] at h;have HP:n=m:=Nat.eq_of_beq_eq_true h.1;obtain⟨h1,h2⟩:=tP h.2;subst HP;cases hv with
   |sln a' cap=>
    have:a=[]:=List.length_eq_zero_iff.1 (by simpa using h1);subst this;exact .sln _ _
   |sl _ _ C o cap us J M X g4 g5 g6 g7=>
    refine .sl _ _ C o cap us J M X g4 g5 (fun j hj=>g6 j oG) fun j d hd=>?_;obtain⟨d',hb,hg⟩:=h2 j d hd;exact wH k hg (g7 j d' hb)
  .rename_i a b e;cases e;obtain⟨h1,h2⟩:=tP h;cases hv with
   |pt _ C o us J M X g6 g7=>
    refine .pt _ C o us J M X (fun j hj=>g6 j oG) fun j d hd=>?_;obtain⟨d',hb,hg⟩:=h2 j d hd;exact wH k hg (g7 j d' hb)
  .cases h
theorem SM{P:Program}{f:FuncId}{args args':List D}{r:D}{k:Nat}(hc:PCall P f args' r)(h:iR (oR k) args' args=true)(ht:∀ a∈args,Tr a):PCall P f args r:=by
 obtain⟨h1,h2⟩:=tP h;refine⟨hc.1,ht,fun F w vs hF hR=>hc.2.2 F w vs hF ⟨by rw[hR.1,h1],fun j d v hd hv=>?_⟩⟩;obtain⟨b,hb,hg⟩:=h2 j d hd;exact wH k hg (hR.2 j b v hb hv)
theorem UK{P:Program}{f:FuncId}{fs C:List D}{xs:List (List D)}{k:Nat}(hc:SeqA P f C [] xs)(h:iR (oR k) C fs=true):SeqA P f fs [] xs:=by
 obtain⟨h1,h2⟩:=tP h;refine⟨hc.1,fun F l I Stop m nx β w vs J hS hm hn hR hy h0=>hc.2 F l I Stop m nx β w vs J hS hm hn ⟨?_,fun j d v hd hv=>?_⟩ hy h0⟩
 .have:=hR.1;simp only[List.length_append] at this ⊢;omega
 .rcases Nat.lt_or_ge j C.length with g|g
  .rw[List.append_nil,List.getElem?_append_left g] at hd;obtain⟨b,hb,hg⟩:=h2 j d hd;exact wH k hg (hR.2 j b v (by rw[List.append_nil,List.getElem?_append_left oG];exact hb) hv)
  .rw[List.append_nil,List.getElem?_append_right g] at hd;exact hR.2 j d v (by rw[List.append_nil,List.getElem?_append_right oG, <- h1];exact hd) hv
def BA(t:List (FuncId×List D×D))(f:FuncId)(args:List D):Option D:=(t.find? fun x=>Nat.beq x.1 f&&(iR (oR 20) x.2.1 args&&args.all (mi depth))).map (·.2.2)
def BV(t:List (FuncId×List D×List (List D)))(f:FuncId)(fs cs:List D):Option (List (List D)):=match cs with
 |[]=>(t.find? fun x=>Nat.beq x.1 f&&iR (oR 20) x.2.1 fs).map (·.2.2)
 |_=>none
theorem Jq{P:Program}{t:List (FuncId×List D×D)}(h:∀ x∈t,PCall P x.1 x.2.1 x.2.2){f:FuncId}{args:List D}{r:D}(hr:BA t f args=some r):PCall P f args r:=by
 unfold BA at hr;rw[bY] at hr;obtain⟨x,hx,rfl⟩:=hr;have h1:=List.find?_some hx;rw[aG,aG] at h1;have hf:x.1=f:=Nat.eq_of_beq_eq_true h1.1;have:=h x (List.mem_of_find?_eq_some hx);rw[hf] at this;exact SM this h1.2.1 fun a ha=>lR (bh.1 h1.2.2 a ha)
theorem J8{P:Program}{t:List (FuncId×List D×List (List D))}(h:∀ x∈t,SeqA P x.1 x.2.1 [] x.2.2/\∀ y∈x.2.2,∀ d∈y,Tr d){f:FuncId}{fs cs:List D}{xs:List (List D)}(hr:BV t f fs cs=some xs):SeqA P f fs cs xs/\∀ y∈xs,∀ d∈y,Tr d:=by
 unfold BV at hr;split at hr
 .rw[bY] at hr;obtain⟨x,hx,rfl⟩:=hr;have h1:=List.find?_some hx;rw[aG] at h1;have hf:x.1=f:=Nat.eq_of_beq_eq_true h1.1;have h2:=h x (List.mem_of_find?_eq_some hx);rw[hf] at h2;exact⟨UK h2.1 h1.2,h2.2⟩
 .cases hr
def xM:Nat->D->D->Bool
 |0,_,_=>false
 |_+1,.s a,.s b=>CY a b
 |_+1,.z,.z=>true
 |k+1,.sl a n,.sl b m=>Nat.beq n m&&iR (xM k) a b
 |_+1,_,_=>false
theorem KH{g:D->D->Bool}(hg:∀ a b,g a b=true->a=b):∀ {xs bs:List D},iR g xs bs=true->xs=bs
 |[],[],_=>rfl
 |a::xs,b::bs,h=>by
  simp only[iR,aG] at h;rw[hg a b h.1,KH hg h.2]
 |[],_::_,h=>by simp[iR] at h
 |_::_,[],h=>by simp[iR] at h
theorem WD:∀ (k:Nat) (a b:D),xM k a b=true->a=b:=fun k=>by
 induction k with
 |zero=>exact fun a b h=>by simp[xM] at h
 |succ k ih=>
  intro a b h;cases a<;>cases b<;>simp only[xM,aG,reduceCtorEq,Bool.false_eq_true] at h ⊢
  .rw[L5 h]
  .rw[Nat.eq_of_beq_eq_true h.1,KH ih h.2]
def yZ:Nat->Code->List Code
 |k+1,.seq a b=>a::yZ k b
 |_,_=>[]
def BW:Nat->Code->Code
 |k+1,.seq a b=>BW k b
 |_,c=>c
theorem parts_eq:∀ (k:Nat) (c:Code),c=(yZ k c).foldr .seq (BW k c)
 |0,c=>by cases c<;>rfl
 |k+1,c=>by
  cases c with
  |seq a b=>
   show Code.seq a b=.seq a ((yZ k b).foldr .seq (BW k b));rw[<- parts_eq k b]
  |_=>rfl
def y0(C:Bool->Code->bp->Option (Exit×bp)):List Code->bp->Option bp
 |[],s=>some s
 |c::cs,s=>match C true c s with
  |some (.normal,s')=>y0 C cs s'
  |_=>none
theorem Jr{P:Program}{M:Bool->Code->bp->Option (Exit×bp)}(C:wO P M){B:Code}{Q:Exit->St->Prop}:∀ {cs:List Code} {c:Code} {s s':bp},y0 M (c::cs) s=some s'->(∃ st',Ghost P s'.st st'/\AW P noY true B Q st')->AW P noY true ((c::cs).foldr .seq B) Q s.st
 |[],c,s,s',h,k=>by
  simp only[y0] at h;split at h
  .rename_i J he;cases h;exact eO (fun st=>st=s'.st) (C _ _ _ _ _ he _ rfl) fun st e=>e▸k
  .cases h
 |d::cs,c,s,s',h,k=>by
  rw[y0] at h;split at h
  .rename_i J he;exact eO (fun st=>st=J.st) (C _ _ _ _ _ he _ rfl) fun st e=>⟨J.st,e▸ .refl _,Jr C h k⟩
  .cases h
section
variable{P:Program}{env:Env}{m:Mem}{nx:Nat}{x y:Operand}{t p:TypeId}{n n':Int}
variable{Y:YSpec}{rf:Bool}{Q:Exit->St->Prop}{st:St}{id eM i1:Nat}{rc:Array Oper}{body:Code}{α:Type}{cf:List (Nat×Nat)}{u:Nat}
end
theorem mO{P:Program}{Y:YSpec}{rf:Bool}{b:Code}{Q:Exit->St->Prop}{env:Env}{m:Mem}{nx:Nat}{l:List (Nat×D)}(he:gU l env)(K:∀ M,M=m->AW P Y rf b Q ⟨aw l,M,nx⟩):
 ∃ st',Ghost P ⟨env,m,nx⟩ st'/\AW P Y rf b Q st':=⟨_,aq he,K m rfl⟩
end Go.Abs
namespace Go.Proofs.Tryz.K
set_option maxRecDepth 100000
theorem TG:bW l6=0:=kr
theorem TH:nP l6=qN:=kr
end Go.Proofs.Tryz.K
namespace Go.Argus
def NP(n:Int):List Int:=n::List.replicate 18 0
def NQ:D:=.sl (bL ([1,3,3,2,7].map NP)) 5
def L6:D:=.sl (bL ([3,3,7,2,7].map NP)) 5
def yY:List (List D):=[[I 0],[I 1],[I 2],[I 3],[I 4]]
def PC:List (List bN):=[[],[⟨1,1,0,0,0,[]⟩],[⟨1,2,0,0, -1,[]⟩]]
def Gw(f:FuncId)(fs cs:List D):Option (List (List D)):=match BV [(61,[.pt qN],yY)] f fs cs with
 |some x=>some x
 |none=>match fs,cs with
  |[],[.pt [e]]=>if Nat.beq f 176 then(PC.find? fun l=>xM 10 (jj l) e).map sA else none
  |_,_=>none
def y3:D:=.sl [.z,.sl [I 1] 1,.sl [I 1] 1,.z,.sl [I 1] 1] 5
end Go.Argus
namespace Go.Proofs.Tryz.K
set_option maxRecDepth 100000
theorem NR:PCall prog 51 [.agg (aX l6)] (.tup [.pt qN,I 0]):=by
 have h:=we TG;rw[TH] at h;exact h
theorem NS:SeqA prog 61 [.pt qN] [] yY:=rv (f:=l6) (cnt:=[true,true,true,true,true]) oC
theorem UL{l:List bN}{y:List D}{d:D}(hy:y∈sA l)(hd:d∈y):Tr d:=by
 unfold sA at hy;rw[List.mem_map] at hy;obtain⟨i,_,rfl⟩:=hy;simp only[List.mem_cons,List.not_mem_nil,or_false] at hd;rcases hd with rfl|rfl
 .exact .s _
 .exact .agg (rR _)
theorem VJ{f:FuncId}{fs cs:List D}{xs:List (List D)}(h:Gw f fs cs=some xs):SeqA prog f fs cs xs/\∀ y∈xs,∀ d∈y,Tr d:=by
 unfold Gw at h;split at h
 .rename_i x hx;cases h
  exact J8 (fun x hx=>by
   simp only[List.mem_singleton] at hx;subst hx;refine⟨NS,fun y hy d hd=>?_⟩;simp only[yY,List.mem_cons,List.not_mem_nil,or_false] at hy
   rcases hy with rfl|rfl|rfl|rfl|rfl<;>(simp only[List.mem_singleton] at hd;subst hd;exact .s _)) hx
 .rename_i hn;clear hn;split at h
  .rename_i e;split at h
   .rename_i hf;rw[bY] at h;obtain⟨l,hl,rfl⟩:=h;have hm:=List.mem_of_find?_eq_some hl;have he:=WD 10 _ _ (List.find?_some (p:=fun l=>xM 10 (jj l) e) hl);subst he;have hf:f=176:=Nat.eq_of_beq_eq_true hf;subst hf
    have hlen:l.length<=100000:=by
     simp only[PC,List.mem_cons,List.not_mem_nil,or_false] at hm;rcases hm with rfl|rfl|rfl<;>decide
    refine⟨abh hlen,fun y hy d hd=>?_⟩;exact UL hy hd
   .cases h
  .cases h
noncomputable def Re:Ctx:=⟨fun f=>zu.get f,Gw,BA [(51,[.agg (aX l6)],.tup [.pt qN,I 0])]⟩
theorem L7:Re.Ok prog:=⟨mixed,EP,fun _ _ _ _ h=>VJ h,
 fun _ _ _ h=>Jq (fun x hx=>by
  simp only[List.mem_singleton] at hx;subst hx
  exact NR) h⟩
theorem Yv:PCall prog 65 [.pt qN] (.tup [NQ,L6]):=iF L7 1000 rfl kr
end Go.Proofs.Tryz.K
namespace Go.Proofs.Tryz.K
set_option maxRecDepth 100000
open Go.Abs
theorem WE:BW 6 cA=.seq (.seq (.region 16 (Z cA 16) false) (.block 6 (.loop (.seq (.region 17 (Z cA 17) false) (.seq (.cond (.tmp 83) .skip (.exit 6)) (.seq (.block 7 (.seq (.region 18 (Z cA 18) false) (.seq (.region 19 (Z cA 19) false) (.region 20 (Z cA 20) true)))) (.region 21 (Z cA 21) false))))))) (.seq (.region 22 (Z cA 22) false) .ret):=by rw[PE];rfl
def ko:List (Nat×Row):=[(4,.cells [.z,.rs 11 0 1,.rs 9 0 1,.z,.rs 7 0 1] 27),(5,.cells [.rs 4 0 5] 28),(7,.cells [I 1] 3),(9,.cells [I 1] 3),(11,.cells [I 1] 3)]
noncomputable def Rg:Option bp:=match r7 0 [.agg (aX l6)] .leaf with
 |some t=>y0 (uK prog Re 1000) (yZ 6 cA) ⟨t,.leaf,0⟩
 |none=>none
theorem f39:(Rg.map fun s=>(cw s.env 7,dn s.mem 4,dn s.mem 5,dn s.mem 7,dn s.mem 9,dn s.mem 11,s.nx))=some (.rp 5 0,some (.cells [.z,.rs 11 0 1,.rs 9 0 1,.z,.rs 7 0 1] 27),some (.cells [.rs 4 0 5] 28),some (.cells [I 1] 3),some (.cells [I 1] 3),some (.cells [I 1] 3),12):=kr
end Go.Proofs.Tryz.K
namespace Go.Proofs.Tryz.K
set_option maxRecDepth 10000
theorem PF:PCall prog 89 [.z] (.tup []):=iF jO 100 rfl kr
theorem PG:PCall prog 90 [.z] .z:=iF jO 100 rfl kr
theorem w39:AW prog noY true (.seq (.seq (.region 16 (Z cA 16) false) (.block 6 (.loop (.seq (.region 17 (Z cA 17) false) (.seq (.cond (.tmp 83) .skip (.exit 6)) (.seq (.block 7 (.seq (.region 18 (Z cA 18) false) (.seq (.region 19 (Z cA 19) false) (.region 20 (Z cA 20) true)))) (.region 21 (Z cA 21) false))))))) (.seq (.region 22 (Z cA 22) false) .ret)) (retQ prog [.tmp 2,.tmp 3] fun d _=>d=.tup [y3,I 0]) ⟨aw [(7,.rp 5 0)],bi ko,12⟩:=by
 refine aB (ax ?_);refine av ?_;refine aa (cN (fun s=>Ghost prog s ⟨aw [(7,.rp 5 0)],bi ko,12⟩) (cG (α:=Nat) (fun k=>⟨aw [(7,.rp 5 0),(81,I 5),(82,I k)],bi ko,12⟩) (fun k=>k<=5) (fun k=>5 - k) 0 (bg eH eH) (Nat.zero_le _) ?_) ?_)
 .intro k hk;refine SS ?_;refine aa ⟨_,rfl,fun h=>?_,fun h=>?_⟩
  .have af:k<5:=by have h:(k:Int)<5:=by simpa using h
                   omega
   have hc:k=0\/k=3\/k=1\/k=2\/k=4:=by omega
   rcases hc with rfl|rfl|rfl|rfl|rfl
   .have rA:=PF;have Al:=PG;refine ws ?_;refine ab ?_;refine er ?_;refine aI ?_;refine cl rA ?_;refine aa (p8 xV ?_);refine bC ?_;refine cl Al ?_;refine ab ?_;refine bE bP ?_;refine ab ?_;exact aa (aJ (0+1) (bg eH eH) oG oG)
   .have rA:=PF;have Al:=PG;refine ws ?_;refine ab ?_;refine er ?_;refine aI ?_;refine cl rA ?_;refine aa (p8 xV ?_);refine bC ?_;refine cl Al ?_;refine ab ?_;refine bE bP ?_;refine ab ?_;exact aa (aJ (3+1) (bg eH eH) oG oG)
   .refine ws ?_;refine ab ?_;refine aa (ax ?_);refine aI ?_;refine gW (rA (i:=11) (l:=[1]) oG rfl rfl oC) rfl bF fun d m' nx' hp=>?_;obtain⟨rfl,rfl,rfl⟩:=hp;refine aa (aR (bg (l:=[(7,.rp 5 0),(12,I 1),(81,I 5),(82,I 1)]) (ml:=ko) eH eH) (p8 xV ?_));refine bC ?_;refine BU (r:=.rs 11 0 1) (ups:=[(11,some (.cells [I 1] 3))]) (rds:=[11]) (fun J bx C=>?_) (fun i hi=>?_) rfl bF ?_
    .have e:=C 11 oS (by simp[ko,bi]);have e:J 11=some (.cells ([1].map I) 3):=e;refine Ba e wU.he fun M=>(zz (d:=[1]) M e rfl oC).mono ?_;rintro r m' nx' ⟨h1,h2,h3⟩;exact⟨h2,h3,h1⟩
    .simp at hi;subst hi;exact⟨oS,by simp[ko,bi]⟩
    show AOps _ _ _ _ _ _ _ ⟨up _ 96 _,up (bi ko) 11 (some (.cells [I 1] 3)),_⟩ _;refine ab ?_;refine bE bP ?_;refine ab ?_;exact aa (aJ (1+1) (bg eH eH) oG oG)
   .refine ws ?_;refine ab ?_;refine aa (ax ?_);refine aI ?_;refine gW (rA (i:=9) (l:=[1]) oG rfl rfl oC) rfl bF fun d m' nx' hp=>?_;obtain⟨rfl,rfl,rfl⟩:=hp;refine aa (aR (bg (l:=[(7,.rp 5 0),(12,I 2),(81,I 5),(82,I 2)]) (ml:=ko) eH eH) (p8 xV ?_));refine bC ?_;refine BU (r:=.rs 9 0 1) (ups:=[(9,some (.cells [I 1] 3))]) (rds:=[9]) (fun J bx C=>?_) (fun i hi=>?_) rfl bF ?_
    .have e:=C 9 oS (by simp[ko,bi]);have e:J 9=some (.cells ([1].map I) 3):=e;refine Ba e wU.he fun M=>(zz (d:=[1]) M e rfl oC).mono ?_;rintro r m' nx' ⟨h1,h2,h3⟩;exact⟨h2,h3,h1⟩
    .simp at hi;subst hi;exact⟨oS,by simp[ko,bi]⟩
    show AOps _ _ _ _ _ _ _ ⟨up _ 96 _,up (bi ko) 9 (some (.cells [I 1] 3)),_⟩ _;refine ab ?_;refine bE bP ?_;refine ab ?_;exact aa (aJ (2+1) (bg eH eH) oG oG)
   .refine ws ?_;refine ab ?_;refine aa (ax ?_);refine aI ?_;refine gW (rA (i:=7) (l:=[1]) oG rfl rfl oC) rfl bF fun d m' nx' hp=>?_;obtain⟨rfl,rfl,rfl⟩:=hp;refine aa (aR (bg (l:=[(7,.rp 5 0),(12,I 4),(81,I 5),(82,I 4)]) (ml:=ko) eH eH) (p8 xV ?_));refine bC ?_;refine BU (r:=.rs 7 0 1) (ups:=[(7,some (.cells [I 1] 3))]) (rds:=[7]) (fun J bx C=>?_) (fun i hi=>?_) rfl bF ?_
    .have e:=C 7 oS (by simp[ko,bi]);have e:J 7=some (.cells ([1].map I) 3):=e;refine Ba e wU.he fun M=>(zz (d:=[1]) M e rfl oC).mono ?_;rintro r m' nx' ⟨h1,h2,h3⟩;exact⟨h2,h3,h1⟩
    .simp at hi;subst hi;exact⟨oS,by simp[ko,bi]⟩
    show AOps _ _ _ _ _ _ _ ⟨up _ 96 _,up (bi ko) 7 (some (.cells [I 1] 3)),_⟩ _;refine ab ?_;refine bE bP ?_;refine ab ?_;exact aa (aJ (4+1) (bg eH eH) oG oG)
  .have X:¬ k<5:=by intro hh;simp at h;omega
   exact bg eH eH
 .intro s hg;refine⟨_,hg,ax ?_⟩;refine av ?_;refine aa (aR (cE [(7,[I 1],3),(9,[I 1],3),(11,[I 1],3),(4,[.z,.sl [I 1] 1,.sl [I 1] 1,.z,.sl [I 1] 1],27)] eH (l:=[(2,y3),(3,I 0)]) ⟨?_,rfl,trivial⟩) (iH rfl rfl rfl));show sub (fz0 4 _ (prog.cellsOf 27)) (.rs 4 0 5)=_;exact nA (by rw[xF];rfl)
theorem Yw:PCall prog 39 [.agg (aX l6)] (.tup [y3,I 0]):=by
 have rm:∀ n,Tr (I n):=fun n=>.s _;have aH:Tr (.tup [y3,I 0]):=lR (n:=5) rfl;refine bd PH (.cons (.agg (jL l6)) .nil) aH ?_;rw[abv];have h:=f39;unfold Rg at h;cases M:r7 0 [.agg (aX l6)] .leaf with
 |none=>rw[M] at h;cases h
 |some t=>
  rw[M] at h;simp only[bY] at h;obtain⟨s,hs,he⟩:=h;have qB:=IQ M
  have X:(⟨t,.leaf,0⟩:bp).st=⟨envOf [.agg (aX l6)],fun _=>none,0⟩:=by
   unfold bp.st;rw[qB,S4]
  rw[<- X,parts_eq 6 cA]
  have hp:∃ c cs,yZ 6 cA=c::cs:=by
   rw[PE];exact⟨_,_,rfl⟩
  obtain⟨c,cs,s9⟩:=hp;rw[s9] at hs ⊢;refine Jr (LH L7 1000) hs ?_;rw[WE];simp only[a8] at he;obtain⟨e7,e4,e5,C,e9,tq,J⟩:=he;refine⟨⟨aw [(7,.rp 5 0)],bi ko,12⟩,?_,w39⟩;have:s.st=⟨cw s.env,dn s.mem,12⟩:=by unfold bp.st;rw[J]
  rw[this];exact bg ⟨e7,trivial⟩ ⟨e4,e5,C,e9,tq,trivial⟩
end Go.Proofs.Tryz.K
namespace Go.Proofs.Tryz.K
set_option maxRecDepth 100000
noncomputable def cx2:Ctx:=⟨fun f=>zu.get f,BV [(61,[.pt qN],yY)],BA [(51,[.agg (aX l6)],.tup [.pt qN,I 0]),(65,[.pt qN],.tup [NQ,L6]),(39,[.agg (aX l6)],.tup [y3,I 0])]⟩
theorem WG:cx2.Ok prog:=⟨mixed,EP,fun _ _ _ _ h=>J8 (fun x hx=>by
 simp only[List.mem_singleton] at hx;subst hx;refine⟨NS,fun y hy d hd=>?_⟩;simp only[yY,List.mem_cons,List.not_mem_nil,or_false] at hy
 rcases hy with rfl|rfl|rfl|rfl|rfl<;>(simp only[List.mem_singleton] at hd;subst hd;exact .s _)) h,
 fun _ _ _ h=>Jq (fun x hx=>by
  simp only[List.mem_cons,List.not_mem_nil,or_false] at hx;rcases hx with rfl|rfl|rfl
  .exact NR
  .exact Yv
  .exact Yw) h⟩
theorem xG:PCall prog 17 [] (B true):=iF WG 1000 rfl kr
end Go.Proofs.Tryz.K
end
namespace Go.Argus
inductive bb(N:Nat->Nat):Nat->Nat->Prop
 |refl (x:Nat):bb N x x
 |up {w x:Nat}:bb N w (N x)->bb N w x
structure gJ(V:Nat->Prop)(pl N:Nat->Nat):Prop where
 root:V 0
 jd:N 0=0
 par:∀ x,V x->x≠0->V (N x)/\pl (N x)<pl x
theorem bb.trans{N:Nat->Nat}{w z x:Nat}(h1:bb N w z)(h2:bb N z x):bb N w x:=by
 induction h2 with
 |refl=>exact h1
 |up _ ih=>exact .up ih
theorem bb.inv{N:Nat->Nat}{w x:Nat}(h:bb N w x):w=x\/bb N w (N x):=by
 cases h with
 |refl=>exact .inl rfl
 |up h=>exact .inr h
theorem bb.zero{N:Nat->Nat}(h0:N 0=0){w x:Nat}(h:bb N w x)(hx:x=0):w=0:=by
 induction h with
 |refl=>exact hx
 |up _ ih=>exact ih (by rw[hx,h0])
section
variable{V:Nat->Prop}{pl N O:Nat->Nat}
theorem gJ.ind(h:gJ V pl N){p:Nat->Prop}(h0:p 0)(hs:∀ x,V x->x≠0->V (N x)->pl (N x)<pl x->p (N x)->p x):∀ x,V x->p x:=by
 have key:∀ k x,pl x<k->V x->p x:=fun k=>by
  induction k with
  |zero=>exact fun x hx=>absurd hx (Nat.not_lt_zero _)
  |succ k ih=>
   intro x hx hv;by_cases C:x=0
   .rw[C];exact h0
   .obtain⟨a,b⟩:=h.par x hv C;exact hs x hv C a b (ih _ oG a)
 exact fun x hv=>key (pl x+1) x (Nat.lt_succ_self _) hv
theorem gJ.low(h:gJ V pl N){w x:Nat}(hv:V x)(ha:bb N w x):V w/\(w=x\/pl w<pl x):=by
 induction ha with
 |refl=>exact⟨hv,.inl rfl⟩
 |@up x ha ih=>
  by_cases C:x=0
  .subst C;rw[h.jd] at ih;exact ih hv
  .obtain⟨a,b⟩:=h.par x hv C;obtain⟨c,d⟩:=ih a;refine⟨c,.inr ?_⟩;rcases d with d|d
   .rw[d];exact b
   .omega
theorem gJ.VQ(h:gJ V pl N):∀ x,V x->bb N 0 x:=h.ind (.refl 0) fun _ _ _ _ _ ih=>.up ih
theorem shrink(J:gJ V pl O)(C:N 0=0)(rel:∀ x,V x->bb N (N x) (O x)):∀ x,V x->∀ w,bb N w x->bb O w x:=
 J.ind (fun w h=>by rw[h.zero C rfl];exact .refl 0) fun x hv _ _ _ ih w h=>by
  rcases h.inv with e|h
  .rw[e];exact .refl x
  .exact .up (ih w (h.trans (rel x hv)))
theorem Zm(C:gJ V pl O)(hN:N 0=0)(rel:∀ x,V x->bb N (N x) (O x)):∀ t,V t->∀ z w,bb O z t->bb O w z->bb N w t->bb N w z:=
 C.ind (fun z w h1 _ h3=>by rw[h1.zero C.jd rfl];exact h3) fun t hv hz hp hl ih z w h1 h2 h3=>by
  rcases h1.inv with e|M
  .rw[e];exact h3
  .rcases h3.inv with e|J
   .obtain⟨X,a⟩:=C.low hv h1;obtain⟨_,b⟩:=C.low X h2;rcases a with a|a
    .rw[a];exact h3
    .rcases b with b|b
     .rw[<- b];exact .refl w
     .rw[e] at b;omega
   .exact ih z w M h2 (J.trans (rel t hv))
theorem Zn(C:gJ V pl O):∀ x,V x->∀ w,bb O w x->¬ bb N w x->∃ c,V c/\bb O c x/\bb O w c/\N c≠O c/\¬ bb N w c:=
 C.ind (fun w h1 h2=>by
  rw[h1.zero C.jd rfl] at h2
  exact absurd (bb.refl 0) h2) fun x hv X hp _ ih w h1 h2=>by
  by_cases e:N x=O x
  .rcases h1.inv with J|M
   .rw[J] at h2;exact absurd (bb.refl x) h2
   .obtain⟨c,a1,a2,a3,a4,a5⟩:=ih w M fun h=>h2 (.up (by rw[e];exact h));exact⟨c,a1,.up a2,a3,a4,a5⟩
  .exact⟨x,hv,.refl x,h1,e,h2⟩
def iC(N:Nat->Nat)(c q x:Nat):Nat:=if x=c then q else N x
theorem nX(c q:Nat):iC N c q c=q:=if_pos rfl
theorem lh{c x:Nat}(q:Nat)(h:x≠c):iC N c q x=N x:=if_neg h
theorem UU(h:gJ V pl N){c q:Nat}(J:c≠0)(C:V q)(hl:pl q<pl c):gJ V pl (iC N c q):=⟨h.root,by rw[lh q oG];exact h.jd,fun x hv hx=>by
 by_cases e:x=c
 .subst e;rw[nX];exact⟨C,hl⟩
 .rw[lh q e];exact h.par x hv hx⟩
theorem EF(h:gJ V pl N){c q:Nat}(J:c≠0):∀ x,V x->pl x<pl c->∀ w,(bb (iC N c q) w x↔bb N w x):=
 h.ind (fun _ w=>⟨fun h'=>by rw[h'.zero (by rw[lh q oG];exact h.jd) rfl];exact .refl 0,fun h'=>by rw[h'.zero h.jd rfl];exact .refl 0⟩) fun x hv _ _ hl ih hx w=>by
  have e:iC N c q x=N x:=lh q fun e=>by rw[e] at hx;omega
  have ih:=ih oG w;constructor
  .intro h';rcases h'.inv with C|h'
   .rw[C];exact .refl x
   .rw[e] at h';exact .up (ih.1 h')
  .intro h';rcases h'.inv with C|h'
   .rw[C];exact .refl x
   .exact .up (by rw[e];exact ih.2 h')
theorem VR(h:gJ V pl N){c q:Nat}(J:V c)(C:c≠0)(hq:bb N q (N c)):∀ x,V x->bb (iC N c q) (iC N c q x) (N x):=fun x hv=>by
 by_cases e:x=c
 .subst e;rw[nX];obtain⟨a,b⟩:=h.par x J C;exact(EF h C (N x) a b q).2 hq
 .rw[lh q e];exact .refl _
def pG(pl N:Nat->Nat):Nat->Nat->Nat->Nat
 |0,x,_=>x
 |k+1,x,a=>if x=a then x else if pl a<pl x then pG pl N k (N x) a else pG pl N k x (N a)
theorem Eb(h:gJ V pl N)(h0:pl 0=0)(inj:∀ x a,V x->V a->pl x=pl a->x=a):∀ (k x a:Nat),V x->V a->pl x+pl a<k->
 V (pG pl N k x a)/\bb N (pG pl N k x a) x/\bb N (pG pl N k x a) a/\∀ w,bb N w x->bb N w a->bb N w (pG pl N k x a)
 |0,x,a,_,_,hk=>absurd hk (Nat.not_lt_zero _)
 |k+1,x,a,vx,va,hk=>by
  rw[pG];split
  .rename_i e;subst e;exact⟨vx,.refl x,.refl x,fun w h _=>h⟩
  .rename_i e;split
   .rename_i hl;have hz:x≠0:=fun e=>by rw[e,h0] at hl;omega
    obtain⟨p1,p2⟩:=h.par x vx hz;obtain⟨q1,q2,q3,q4⟩:=Eb h h0 inj k (N x) a p1 va oG;refine⟨q1,.up q2,q3,fun w J M=>?_⟩;rcases J.inv with C|X
    .obtain⟨_,b⟩:=h.low va M;rcases b with b|b
     .exact absurd (C.symm.trans b) e
     .rw[C] at b;omega
    .exact q4 w X M
   .rename_i hl;have ap:pl x≠pl a:=fun C=>e (inj x a vx va C);have hz:a≠0:=fun e=>by rw[e,h0] at ap hl;omega
    obtain⟨p1,p2⟩:=h.par a va hz;obtain⟨q1,q2,q3,q4⟩:=Eb h h0 inj k x (N a) vx p1 oG;refine⟨q1,q2,.up q3,fun w J M=>?_⟩;rcases M.inv with C|g2'
    .obtain⟨_,b⟩:=h.low vx J;rcases b with b|b
     .exact absurd (b.symm.trans C) e
     .rw[C] at b;omega
    .exact q4 w J g2'
end
structure tG(E:Nat->Nat->Prop)(R:Nat->Prop)(pl:Nat->Nat):Prop where
 root:R 0
 next:∀ a c,E a c->R a->R c
 inj:∀ x a,R x->R a->pl x=pl a->x=a
 lJ:pl 0=0
 pre:∀ c,c≠0->R c->∃ t,E t c/\R t/\pl t<pl c
inductive Av(E:Nat->Nat->Prop)(w:Nat):Nat->Prop
 |zero:0≠w->Av E w 0
 |step {x c:Nat}:Av E w x->E x c->c≠w->Av E w c
section
variable{E:Nat->Nat->Prop}{R:Nat->Prop}{pl:Nat->Nat}
theorem Av.reach(hg:tG E R pl){w x:Nat}(h:Av E w x):R x:=by
 induction h with
 |zero=>exact hg.root
 |step _ e _ ih=>exact hg.next _ _ e ih
structure pH(E:Nat->Nat->Prop)(R:Nat->Prop)(pl O:Nat->Nat):Prop where
 tree:gJ R pl O
 i1:∀ c,R c->c≠0->∀ w,(∀ a,E a c->R a->bb O w a)->bb O w (O c)
 i2:∀ c,R c->c≠0->∃ t,E t c/\R t/\pl t<pl c/\bb O (O c) t
 i3:∀ x,R x->∀ w,¬ Av E w x->bb O w x
structure uF(E:Nat->Nat->Prop)(R:Nat->Prop)(pl O N:Nat->Nat)(k:Nat):Prop where
 rD:pH E R pl O
 tree:gJ R pl N
 rel:∀ x,R x->bb N (N x) (O x)
 C0:∀ x,R x->k<=pl x->N x=O x
 m3:∀ c,R c->c≠0->pl c<k->∀ w,(∀ a,E a c->R a->bb N w a)->bb N w (N c)
 m4:∀ c,R c->c≠0->pl c<k->∃ t,E t c/\R t/\pl t<pl c/\bb N (N c) t
 m5:∀ x,R x->pl x<k->∀ w,¬ Av E w x->bb N w x
theorem pH.start(hg:tG E R pl){O:Nat->Nat}(h:pH E R pl O):uF E R pl O O 1:=⟨h,h.tree,fun x _=>.refl _,fun _ _ _=>rfl,fun c rc C hl=>absurd (hg.inj c 0 rc hg.root (by rw[hg.lJ];omega)) C,
 fun c rc C hl=>absurd (hg.inj c 0 rc hg.root (by rw[hg.lJ];omega)) C,fun x M _ w J=>h.i3 x M w J⟩
theorem uF.fin{O N:Nat->Nat}{k:Nat}(h:uF E R pl O N k)(hk:∀ x,R x->pl x<k):pH E R pl N:=⟨h.tree,fun c rc C=>h.m3 c rc C (hk c rc),fun c rc C=>h.m4 c rc C (hk c rc),fun x J=>h.m5 x J (hk x J)⟩
theorem pH.down{O:Nat->Nat}(h:pH E R pl O)(hg:tG E R pl){c w:Nat}(hc:Av E w c)(C:pl w<pl c):∀ k x,pl x<k->R x->bb O c x->Av E w x
 |0,x,hk,_,_=>absurd hk (Nat.not_lt_zero _)
 |k+1,x,hk,rx,ha=>by
  rcases ha.inv with e|M
  .rw[<- e];exact hc
  .by_cases J:x=0
   .subst J;rw[<- ha.zero h.tree.jd rfl];exact hc
   .obtain⟨t,e1,e2,e3,e4⟩:=h.i2 x rx J;refine .step (h.down hg hc C k t oG e2 (M.trans e4)) e1 fun e=>?_;obtain⟨_,b⟩:=h.tree.low rx ha;rw[e] at b;rcases b with b|b
    .rw[b] at C;omega
    .omega
theorem uF.step(hg:tG E R pl){O N:Nat->Nat}{k c q:Nat}(h:uF E R pl O N k)(rc:R c)(hz:c≠0)(hk:pl c=k)(rq:R q)
 (hq:∀ a,E a c->R a->bb N q a) (hm:∀ w,(∀ a,E a c->R a->bb N w a)->bb N w q):
 bb N q (N c)/\uF E R pl O (iC N c q) (k+1):=by
 have M:=h.rD;have e:=h.C0 c rc oG;have sh:=shrink M.tree h.tree.jd h.rel
 have up:bb N q (N c):=by
  rw[e];obtain⟨t,e1,e2,_,e4⟩:=M.i2 c rc hz;exact Zm M.tree h.tree.jd h.rel t e2 (O c) q e4 (M.i1 c rc hz q fun a X ra=>sh a ra q (hq a X ra)) (hq t e1 e2)
 obtain⟨p1,p2⟩:=h.tree.par c rc hz;obtain⟨_,q2⟩:=h.tree.low p1 up
 have ql:pl q<pl c:=by
  rcases q2 with q2|q2
  .rw[q2];exact p2
  .omega
 have tr:=UU h.tree hz rq ql;have rl:=VR h.tree rc hz up;have Rn:=shrink h.tree tr.jd rl;have kL:=fun x C hl w=>EF (q:=q) h.tree hz x C hl w;have Oc:∀ w,bb (iC N c q) w q↔bb N w q:=fun w=>kL q rq ql w;refine⟨up,M,tr,fun x C=>?_,fun x C hx=>?_,fun x C xz hx w hw=>?_,fun x C xz hx=>?_,fun x C hx w hw=>?_⟩
 .by_cases J:x=c
  .subst J;have:=rl x C
   rwa[e] at this
  .rw[lh q J];rcases Nat.lt_or_ge (pl x) (pl c) with g|g
   .by_cases xz:x=0
    .subst xz;rw[M.tree.jd,h.tree.jd];exact .refl 0
    .obtain⟨o1,o2⟩:=M.tree.par x C xz;exact(kL (O x) o1 oG _).2 (h.rel x C)
   .rw[h.C0 x C oG];exact .refl _
 .rw[lh q fun e'=>by rw[e'] at hx;omega];exact h.C0 x C oG
 .by_cases J:x=c
  .subst J;rw[nX,Oc];exact hm w fun a X ra=>Rn a ra w (hw a X ra)
  .have kb:pl x<k:=by
    rcases Nat.lt_or_ge (pl x) k with g|g
    .exact g
    .exact absurd (hg.inj x c C rc oG) J
   obtain⟨o1,o2⟩:=h.tree.par x C xz;rw[lh q J,kL (N x) o1 oG];exact h.m3 x C xz kb w fun a X ra=>Rn a ra w (hw a X ra)
 .by_cases J:x=c
  .subst J;obtain⟨t,e1,e2,e3⟩:=hg.pre x hz rc;refine⟨t,e1,e2,e3,?_⟩;rw[nX,kL t e2 e3];exact hq t e1 e2
  .have kb:pl x<k:=by
    rcases Nat.lt_or_ge (pl x) k with g|g
    .exact g
    .exact absurd (hg.inj x c C rc oG) J
   obtain⟨t,e1,e2,e3,e4⟩:=h.m4 x C xz kb;refine⟨t,e1,e2,e3,?_⟩;rw[lh q J,kL t e2 oG];exact e4
 .by_cases J:x=c
  .subst J;by_cases ew:w=x
   .subst ew;exact .refl w
   .refine .up ?_;rw[nX,Oc];refine hm w fun a X ra=>?_;have Rp:¬ Av E w a:=fun ha=>hw (.step ha X fun e=>ew e.symm);by_cases vi:bb N w a
    .exact vi
    .exfalso;obtain⟨d,d1,d2,d3,d4,d5⟩:=Zn (N:=N) M.tree a ra w (M.i3 a ra w Rp) vi
     have hdk:pl d<k:=by
      rcases Nat.lt_or_ge (pl d) k with g|g
      .exact g
      .exact absurd (h.C0 d d1 g) d4
     have Ib:Av E w d:=by
      refine Classical.byContradiction fun hn=>?_;exact d5 (h.m5 d d1 hdk w hn)
     have hl:pl w<pl d:=by
      obtain⟨_,b⟩:=M.tree.low d1 d3;rcases b with b|b
      .rw[b] at d5;exact absurd (.refl d) d5
      .exact b
     exact Rp (M.down hg Ib hl _ a (Nat.lt_succ_self _) ra d2)
  .have kb:pl x<k:=by
    rcases Nat.lt_or_ge (pl x) k with g|g
    .exact g
    .exact absurd (hg.inj x c C rc oG) J
   rw[kL x C oG];exact h.m5 x C kb w hw
structure sR(E:Nat->Nat->Prop)(R:Nat->Prop)(pl N:Nat->Nat)(k:Nat):Prop where
 tree:gJ (fun x=>R x/\pl x<k) pl N
 m3:∀ c,R c->c≠0->pl c<k->∀ w,(∀ a,E a c->R a->pl a<pl c->bb N w a)->bb N w (N c)
 m4:∀ c,R c->c≠0->pl c<k->∃ t,E t c/\R t/\pl t<pl c/\bb N (N c) t
 m5:∀ x,R x->pl x<k->∀ w,¬ Av E w x->bb N w x
theorem sR.start(hg:tG E R pl){N:Nat->Nat}(h:N 0=0):sR E R pl N 1:=by
 have key:∀ c,R c->pl c<1->c=0:=fun c rc hl=>hg.inj c 0 rc hg.root (by rw[hg.lJ];omega);refine⟨⟨⟨hg.root,by rw[hg.lJ];omega⟩,h,fun x hx C=>absurd (key x hx.1 hx.2) C⟩,fun c rc C hl=>absurd (key c rc hl) C,fun c rc C hl=>absurd (key c rc hl) C,fun x X hl w M=>?_⟩;have e:=key x X hl;subst e;by_cases J:w=0
 .rw[J];exact .refl 0
 .exact absurd (.zero fun e=>J e.symm) M
theorem sR.fin{N:Nat->Nat}{k:Nat}(h:sR E R pl N k)(hk:∀ x,R x->pl x<k):pH E R pl N:=
 ⟨⟨h.tree.root.1,h.tree.jd,fun x C J=>⟨(h.tree.par x ⟨C,hk x C⟩ J).1.1,(h.tree.par x ⟨C,hk x C⟩ J).2⟩⟩,fun c rc J w X=>h.m3 c rc J (hk c rc) w fun a M ra _=>X a M ra,fun c rc J=>h.m4 c rc J (hk c rc),fun x C=>h.m5 x C (hk x C)⟩
theorem sR.step(hg:tG E R pl){N:Nat->Nat}{k c q:Nat}(h:sR E R pl N k)(rc:R c)(hz:c≠0)(hk:pl c=k)(rq:R q)
 (hq:∀ a,E a c->R a->pl a<k->bb N q a) (hm:∀ w,(∀ a,E a c->R a->pl a<k->bb N w a)->bb N w q):sR E R pl (iC N c q) (k+1):=by
 obtain⟨t,t1,t2,t3⟩:=hg.pre c hz rc;obtain⟨⟨_,q1⟩,q2⟩:=h.tree.low (w:=q) (x:=t) ⟨t2,oG⟩ (hq t t1 t2 oG);have M:=fun x (J:R x) (hl:pl x<k) w=>EF (q:=q) h.tree hz x ⟨J,hl⟩ (by omega:pl x<pl c) w
 have rD:∀ x,R x->x≠c->pl x<k+1->pl x<k:=fun x J C hx=>by
  rcases Nat.lt_or_ge (pl x) k with g|g
  .exact g
  .exact absurd (hg.inj x c J rc oG) C
 refine⟨⟨⟨hg.root,by rw[hg.lJ];omega⟩,by rw[lh q oG];exact h.tree.jd,fun x hx X=>?_⟩,fun x J X hx w hw=>?_,fun x J X hx=>?_,fun x J hx w hw=>?_⟩
 .by_cases C:x=c
  .subst C;rw[nX];exact⟨⟨rq,oG⟩,oG⟩
  .obtain⟨a,b⟩:=h.tree.par x ⟨hx.1,rD x hx.1 C hx.2⟩ X;rw[lh q C];exact⟨⟨a.1,oG⟩,b⟩
 .by_cases C:x=c
  .subst C;rw[nX,M q rq q1];exact hm w fun a ea ra hl=>(M a ra hl w).1 (hw a ea ra oG)
  .have kb:=rD x J C hx;obtain⟨o1,o2⟩:=h.tree.par x ⟨J,kb⟩ X;rw[lh q C,M (N x) o1.1 o1.2];exact h.m3 x J X kb w fun a ea ra hl=>(M a ra oG w).1 (hw a ea ra hl)
 .by_cases C:x=c
  .subst C;refine⟨t,t1,t2,t3,?_⟩;rw[nX,M t t2 oG];exact hq t t1 t2 oG
  .have kb:=rD x J C hx;obtain⟨t,e1,e2,e3,e4⟩:=h.m4 x J X kb;refine⟨t,e1,e2,e3,?_⟩;rw[lh q C,M t e2 oG];exact e4
 .by_cases C:x=c
  .subst C;by_cases ew:w=x
   .subst ew;exact .refl w
   .refine .up ?_;rw[nX,M q rq q1];exact hm w fun a ea ra hl=>h.m5 a ra hl w fun ha=>hw (.step ha ea fun e=>ew e.symm)
  .rw[M x J (rD x J C hx)];exact h.m5 x J (rD x J C hx) w hw
theorem pH.pJ(hg:tG E R pl){O:Nat->Nat}(h:pH E R pl O)(hf:∀ c,R c->c≠0->∀ a,E a c->R a->bb O (O c) a){w x:Nat}(M:R x):bb O w x↔¬ Av E w x:=by
 refine⟨fun ha X=>?_,h.i3 x M w⟩
 induction X with
 |zero hw=>exact hw (ha.zero h.tree.jd rfl).symm
 |@step x c hx e hc ih=>
  have J:=hx.reach hg;rcases ha.inv with e'|tH
  .exact hc e'.symm
  .by_cases C:c=0
   .exact hc (C.trans (ha.zero h.tree.jd C).symm)
   .exact ih J (tH.trans (hf c M C x e J))
end
def lA(beh:Nat->List Int)(l J:List Int):Prop:=∀ M x C,l=M++x::C->x∈J\/∃ t∈C,0<=t/\x∈beh t.toNat
theorem lA.nil{beh:Nat->List Int}{C:List Int}:lA beh [] C:=fun J x M h=>by simp at h
theorem lA.mono{beh:Nat->List Int}{l J C:List Int}(h:lA beh l J)(hs:∀ x∈J,x∈C):lA beh l C:=fun M x X e=>(h M x X e).imp (hs x) id
theorem lA.app{beh:Nat->List Int}{l l' C:List Int}(h:lA beh l C)(h':lA beh l' C):lA beh (l++l') C:=fun M x J e=>by
 rcases List.append_eq_append_iff.1 e with⟨a,e1,e2⟩|⟨a,e1,e2⟩
 .exact h' a x J e2
 .cases a with
  |nil=>
   simp only[List.nil_append] at e2;exact h' [] x J e2.symm
  |cons y a=>
   simp only[List.cons_append,List.cons.injEq] at e2;obtain⟨rfl,rfl⟩:=e2;exact(h M x a e1).imp id fun⟨t,ht,r⟩=>⟨t,List.mem_append_left _ ht,r⟩
theorem lA.last{beh:Nat->List Int}{l:List Int}{b:Nat}(h:lA beh l (beh b)):lA beh (l++[(b:Int)]) [(b:Int)]:=fun C x J e=>by
 rcases List.append_eq_append_iff.1 e with⟨a,e1,e2⟩|⟨a,e1,e2⟩
 .cases a with
  |nil=>
   simp only[List.nil_append,List.cons.injEq] at e2;exact .inl (by simp[e2.1])
  |cons y a=>simp at e2
 .cases a with
  |nil=>
   simp only[List.nil_append,List.cons.injEq] at e2;exact .inl (by simp[e2.1])
  |cons y a=>
   simp only[List.cons_append,List.cons.injEq] at e2;obtain⟨rfl,rfl⟩:=e2;rcases h C x a e1 with h|⟨t,ht,r⟩
   .exact .inr ⟨b,oS,oG,by simpa using h⟩
   .exact .inr ⟨t,List.mem_append_left _ ht,r⟩
theorem Lj{beh:Nat->List Int}{w:Int}(hb:∀ b,∀ c∈beh b,0<=c):∀ (k:Nat) (s:List Bool×List Int) (b:Nat),∃ l,(cW beh w k s b).2=s.2++l/\lA beh l [(b:Int)]
 |0,s,b=>⟨[],by simp[cW],.nil⟩
 |k+1,s,b=>by
  have hF:∀ cs:List Int,(∀ c∈cs,0<=c)->∀ s:List Bool×List Int,∃ l,(cJ beh w k s cs).2=s.2++l/\lA beh l cs:=fun cs=>by
   induction cs using Bm with
   |h0=>exact fun _ s=>⟨[],by simp[cJ],.nil⟩
   |h1 cs c ih=>
    intro hc s;obtain⟨l,e,h⟩:=ih (fun c h=>hc c (by simp[h])) s;rw[AZ];split
    .obtain⟨l',C,h'⟩:=Lj hb k (cJ beh w k s cs) c.toNat;refine⟨l++l',by rw[C,e,List.append_assoc],(h.mono fun x hx=>by simp[hx]).app (h'.mono fun x hx=>?_)⟩;have:=hc c oS;simp only[List.mem_singleton] at hx;rw[hx,Int.toNat_of_nonneg this];simp
    .exact⟨l,e,h.mono fun x hx=>by simp[hx]⟩
  rw[pV];obtain⟨l,e,h⟩:=hF (beh b) (hb b) (s.1.set b true,s.2);exact⟨l++[(b:Int)],by simp only;rw[e,List.append_assoc],h.last⟩
section
variable{beh:Nat->List Int}{n:Nat}(hb:∀ b,∀ c∈beh b,0<=c/\c.toNat<n)(hn:0<n)
include hb hn
theorem vr:∃ t,bH beh n=0::t:=by
 obtain⟨k,rfl⟩:∃ k,n=k+1:=⟨n - 1,oG⟩
 refine⟨_,by unfold bH;rw[pV,List.reverse_append];rfl⟩
omit hn in
theorem TL{i:Nat}{x:Int}(hx:(bH beh n)[i]? =some x)(h0:x≠0):∃ j t,j<i/\(bH beh n)[j]? =some t/\0<=t/\x∈beh t.toNat:=by
 obtain⟨l,e,h⟩:=Lj (w:= -1) (fun b c hc=>(hb b c hc).1) n (List.replicate n false,[]) 0;have C:bH beh n=l.reverse:=by unfold bH;rw[e];rfl
 rw[C] at hx ⊢;obtain⟨hi,hx⟩:=bj.1 hx;rw[List.length_reverse] at hi;rw[List.getElem_reverse] at hx;have hk:l.length - 1 - i<l.length:=by omega
 rcases h (l.take (l.length - 1 - i)) x (l.drop (l.length - 1 - i+1)) (by rw[<- hx, <- List.drop_eq_getElem_cons hk,List.take_append_drop]) with h|⟨t,ht,r⟩
 .simp at h;exact absurd h h0
 .obtain⟨m,hm⟩:=cU ht;rw[List.getElem?_drop] at hm;obtain⟨J,hm⟩:=bj.1 hm;refine⟨l.length - 1 - (l.length - 1 - i+1+m),t,oG,?_,r⟩;rw[aK (by rw[List.length_reverse];omega),List.getElem_reverse];congr 1;rw[<- hm];congr 1;omega
end
def oU(ord:List Int)(n:Nat):Nat->List Int
 |0=>List.replicate n 0
 |i+1=>(oU ord n i).set (ord.getD i 0).toNat i
def wk(ord:List Int)(n:Nat):List Int:=oU ord n ord.length
theorem Bp{ord:List Int}{n:Nat}:∀ i,(oU ord n i).length=n
 |0=>by simp[oU]
 |i+1=>by simp[oU,Bp i]
theorem Lk{ord:List Int}{n:Nat}(nd:ord.Nodup)(C:∀ b∈ord,0<=b/\b.toNat<n):∀ i,i<=ord.length->∀ j b,j<i->ord[j]? =some b->(oU ord n i).getD b.toNat 0=j
 |0,_,j,_,h,_=>absurd h (Nat.not_lt_zero j)
 |i+1,hi,j,b,hj,hb=>by
  have hl:i<ord.length:=hi;have ha:=aK hl;have hd:ord.getD i 0=ord[i]:=by rw[aV,ha];rfl
  rw[oU,hd,aV,List.getElem?_set];have J:=C _ (cZ hl);by_cases e:j=i
  .subst e;rw[ha] at hb;cases hb;rw[if_pos rfl,if_pos (by rw[Bp];exact J.2)];rfl
  .have M:¬ ord[i].toNat=b.toNat:=fun e'=>by
    obtain⟨ov,e2⟩:=bj.1 hb;have X:=C b (e2▸cZ ov);have:ord[i]=ord[j]:=by rw[e2];omega
    have:=(List.getElem_inj nd).1 this;omega
   rw[if_neg M, <- List.getD_eq_getElem?_getD];exact Lk nd C i oG j b oG hb
theorem Jx{ord:List Int}{n:Nat}(nd:ord.Nodup)(C:∀ b∈ord,0<=b/\b.toNat<n){j:Nat}{b:Int}(h:ord[j]? =some b):(wk ord n).getD b.toNat 0=j:=by
 obtain⟨hj,_⟩:=bj.1 h;exact Lk nd C _ (aU _) j b hj h
theorem Js{ord:List Int}{n:Nat}:(wk ord n).length=n:=Bp _
def ct(out:List Int)(x:Int):Int:=out.getD x.toNat (-1)
def jb(pl:List Int)(x:Int):Int:=pl.getD x.toNat 0
def pF(pl out:List Int):Nat->Int->Int->Int
 |0,x,_=>x
 |k+1,x,a=>if x=a then x else if jb pl a<jb pl x then pF pl out k (ct out x) a else pF pl out k x (ct out a)
def iL(pl out:List Int)(nx a:Int):Int:=if ct out a= -1 then nx else if nx= -1 then a else pF pl out (2*pl.length) nx a
def jZ(pl out l:List Int):Int:=l.foldl (iL pl out) (-1)
def gO(pl:List Int)(ahd:Nat->List Int)(s:List Int×Bool)(b:Int):List Int×Bool:=
 if ct s.1 b=jZ pl s.1 (ahd b.toNat) then s else(s.1.set b.toNat (jZ pl s.1 (ahd b.toNat)),true)
def mI(pl:List Int)(ahd:Nat->List Int)(rest out:List Int):List Int×Bool:=rest.foldl (gO pl ahd) (out,false)
def Bq(pl:List Int)(ahd:Nat->List Int)(rest:List Int):Nat->List Int->List Int
 |0,out=>out
 |k+1,out=>if(mI pl ahd rest out).2=true then Bq pl ahd rest k (mI pl ahd rest out).1 else(mI pl ahd rest out).1
def iK(n:Nat):List Int:=(List.replicate n (-1)).set 0 0
def cq(out:List Int)(x:Nat):Nat:=(ct out x).toNat
structure wJ(V:Nat->Prop)(n:Nat)(out:List Int):Prop where
 len:out.length=n
 set:∀ x,V x->0<=ct out x
 un:∀ x:Nat,¬ V x->ct out x= -1
theorem tW{out:List Int}{b x:Nat}{q:Int}(h:b<out.length):ct (out.set b q) x=if x=b then q else ct out x:=by
 unfold ct;simp only[b9,aV,List.getElem?_set];by_cases e:b=x
 .subst e;simp[h]
 .rw[if_neg e,if_neg fun C=>e C.symm]
theorem Kc{out:List Int}{b q:Nat}(h:b<out.length):cq (out.set b (q:Int))=iC (cq out) b q:=by
 funext x;unfold cq iC;rw[tW h];split<;>simp
section
variable{V:Nat->Prop}{plL out:List Int}{pl:Nat->Nat}{n:Nat}
theorem EW(hp:∀ x:Nat,V x->jb plL x=pl x)(hg:wJ V n out)(ht:gJ V pl (cq out))(h0:pl 0=0)(inj:∀ x a,V x->V a->pl x=pl a->x=a):
 ∀ (k x a:Nat),V x->V a->pF plL out k x a=(pG pl (cq out) k x a:Nat)
 |0,x,a,_,_=>rfl
 |k+1,x,a,vx,va=>by
  have M:ct out x=(cq out x:Nat):=by unfold cq;rw[Int.toNat_of_nonneg (hg.set x vx)]
  have J:ct out a=(cq out a:Nat):=by unfold cq;rw[Int.toNat_of_nonneg (hg.set a va)]
  rw[pF,pG,hp x vx,hp a va,M,J];have e1:((x:Int)=a)=(x=a):=propext Int.natCast_inj;have e2:((pl a:Int)<pl x)=(pl a<pl x):=propext Int.ofNat_lt;simp only[e1,e2];split
  .rfl
  .rename_i C;split
   .rename_i hl;exact EW hp hg ht h0 inj k _ a (ht.par x vx fun e=>by rw[e,h0] at hl;omega).1 va
   .rename_i hl
    exact EW hp hg ht h0 inj k x _ vx (ht.par a va fun e=>by
     subst e
     exact C (inj x 0 vx va oG)).1
theorem EG(hp:∀ x:Nat,V x->jb plL x=pl x)(hn:∀ x,V x->pl x<plL.length)(hg:wJ V n out)(ht:gJ V pl (cq out))(h0:pl 0=0)(inj:∀ x a,V x->V a->pl x=pl a->x=a)
 {l:List Int} (hl:∀ a∈l,0<=a):(jZ plL out l= -1/\∀ a∈l,¬ V a.toNat)\/
 ∃ q:Nat,jZ plL out l=q/\V q/\(∀ a∈l,V a.toNat->bb (cq out) q a.toNat)/\∀ w,(∀ a∈l,V a.toNat->bb (cq out) w a.toNat)->bb (cq out) w q:=by
 induction l using Bm with
 |h0=>exact .inl ⟨rfl,fun a h=>by simp at h⟩
 |h1 l a ih=>
  have ih:=ih fun a h=>hl a (by simp[h]);have ha:=hl a oS;have e:jZ plL out (l++[a])=iL plL out (jZ plL out l) a:=by unfold jZ;rw[List.foldl_append];rfl
  rw[e];have M:∀ x∈l++[a],x∈l\/x=a:=fun x hx=>by simpa using hx
  have X:∀ x∈l,x∈l++[a]:=fun x hx=>by simp[hx]
  obtain⟨m,rfl⟩:=dd ha;by_cases hv:V m
  .have hs:¬ ct out (m:Int)= -1:=by have:=hg.set m hv;omega
   rcases ih with⟨h1,h2⟩|⟨q,h1,h2,h3,h4⟩
   .refine .inr ⟨m,by unfold iL;rw[if_neg hs,if_pos h1],hv,fun x hx C=>?_,fun w J=>by simpa using J m oS hv⟩;rcases M x hx with h|h
    .exact absurd C (h2 x h)
    .subst h;exact .refl _
   .have hk:pl q+pl m<2*plL.length:=by have:=hn q h2;have:=hn m hv;omega
    obtain⟨s1,s2,s3,s4⟩:=Eb ht h0 inj (2*plL.length) q m h2 hv hk;refine .inr ⟨pG pl (cq out) (2*plL.length) q m,?_,s1,fun x hx C=>?_,fun w J=>?_⟩
    .unfold iL;rw[if_neg hs,h1,if_neg oG,EW hp hg ht h0 inj _ q m h2 hv]
    .rcases M x hx with h|h
     .exact s2.trans (h3 x h C)
     .subst h;exact s3
    .exact s4 w (h4 w fun x hx=>J x (X x hx)) (by simpa using J m oS hv)
  .have hs:ct out (m:Int)= -1:=hg.un m hv;have e':iL plL out (jZ plL out l) (m:Int)=jZ plL out l:=by unfold iL;rw[if_pos hs]
   rw[e'];rcases ih with⟨h1,h2⟩|⟨q,h1,h2,h3,h4⟩
   .refine .inl ⟨h1,fun x hx C=>?_⟩;rcases M x hx with h|h
    .exact h2 x h C
    .subst h;exact hv C
   .refine .inr ⟨q,h1,h2,fun x hx C=>?_,fun w J=>h4 w fun x hx=>J x (X x hx)⟩;rcases M x hx with h|h
    .exact h3 x h C
    .subst h;exact absurd C hv
end
structure oi(beh ahd:Nat->List Int)(n:Nat):Prop where
 pos:0<n
 to:∀ b,∀ c∈beh b,0<=c/\c.toNat<n
 ni:∀ (c:Nat) (a:Int),a∈ahd c↔0<=a/\a.toNat<n/\(c:Int)∈beh a.toNat
def fQ(beh:Nat->List Int)(a c:Nat):Prop:=(c:Int)∈beh a
def a9(beh:Nat->List Int)(n x:Nat):Prop:=(b8 beh n (-1)).getD x false=true
def plL(beh:Nat->List Int)(n:Nat):List Int:=wk (bH beh n) n
def cV(beh:Nat->List Int)(n x:Nat):Nat:=(jb (plL beh n) x).toNat
section
variable{beh ahd:Nat->List Int}{n:Nat}(h:oi beh ahd n)
include h
theorem EH{x:Nat}:(x:Int)∈bH beh n↔a9 beh n x:=by
 rw[DL h.to h.pos];simp[a9]
theorem vU:∀ b∈bH beh n,0<=b/\b.toNat<n:=fun b hb=>by
 have hb:=(DL h.to h.pos).1 hb;refine⟨hb.1,?_⟩;have hl:=vB (w:= -1) h.to h.pos;rcases Nat.lt_or_ge b.toNat n with g|g
 .exact g
 .rw[aV,List.getElem?_eq_none oG] at hb;simp at hb
theorem BB{x:Nat}(hx:a9 beh n x):x<n:=by simpa using(vU h x ((EH h).2 hx)).2
theorem vZ{x:Nat}(hx:a9 beh n x):∃ i:Nat,(bH beh n)[i]? =some (x:Int)/\jb (plL beh n) x=i/\cV beh n x=i:=by
 obtain⟨i,hi⟩:=cU ((EH h).2 hx);have:=Jx (Dn h.to h.pos) (vU h) hi;exact⟨i,hi,this,by unfold cV jb plL;rw[this];rfl⟩
theorem WQ{x:Nat}(hx:a9 beh n x):jb (plL beh n) x=cV beh n x:=by
 obtain⟨i,_,a,b⟩:=vZ h hx;rw[a,b]
theorem EX{i:Nat}{x:Int}(hi:(bH beh n)[i]? =some x):∃ m:Nat,x=m/\a9 beh n m/\cV beh n m=i:=by
 have hm:=bJ hi;obtain⟨m,rfl⟩:=dd (vU h x hm).1;refine⟨m,rfl,(EH h).1 hm,?_⟩;have:=Jx (Dn h.to h.pos) (vU h) hi;unfold cV jb plL;rw[this];rfl
theorem y4:(bH beh n).length<=n:=by
 have M:(List.replicate n false).getD 0 false=false:=by rw[aV,List.getElem?_replicate];split<;>rfl
 have nd:=Dn h.to h.pos;have hr:=vU h
 have J:((bH beh n).map Int.toNat).Nodup:=by
  rw[List.nodup_iff_pairwise_ne,List.pairwise_map];refine(List.Pairwise.and_mem.1 nd).imp fun {a b} C e=>?_;have:=hr a C.1;have:=hr b C.2.1;exact C.2.2 oG
 have:=List.Nodup.length_le_of_subset J (l₂:=List.range n) fun x hx=>by
  obtain⟨y,hy,rfl⟩:=List.mem_map.1 hx;exact List.mem_range.2 (hr y hy).2
 simpa using this
theorem zc{x:Nat}(hx:a9 beh n x):cV beh n x<(bH beh n).length:=by
 obtain⟨i,a,_,b⟩:=vZ h hx;rw[b];exact(bj.1 a).1
theorem pT:tG (fQ beh) (a9 beh n) (cV beh n):=by
 obtain⟨t,ht⟩:=vr h.to h.pos;have C:(bH beh n)[0]? =some ((0:Nat):Int):=by rw[ht];rfl
 obtain⟨m,e,hm,hp⟩:=EX h C;have:m=0:=by omega
 subst this;refine⟨hm,fun a c e ra=>?_,fun x a J ra e=>?_,hp,fun c M rc=>?_⟩
 .have:=Iv h.to h.pos ra c e;simpa[a9] using this
 .obtain⟨i,a1,_,a3⟩:=vZ h J;obtain⟨j,b1,_,b3⟩:=vZ h ra;have:i=j:=by omega
  subst this;rw[a1] at b1;have:=Option.some.inj b1;omega
 .obtain⟨i,a1,_,a3⟩:=vZ h rc;obtain⟨j,t,hj,ht,h0,hc⟩:=TL h.to a1 oG;obtain⟨m,rfl,hm,hp⟩:=EX h ht;exact⟨m,by simpa[fQ] using hc,hm,oG⟩
def sC(beh:Nat->List Int)(n:Nat)(out:List Int):Prop:=pH (fQ beh) (a9 beh n) (cV beh n) (cq out)/\wJ (a9 beh n) n out
theorem zd{x:Nat}(hx:a9 beh n x):jb (plL beh n) x=cV beh n x:=WQ h hx
theorem EY{x:Nat}(hx:a9 beh n x):cV beh n x<(plL beh n).length:=by
 have:=zc h hx;have:=y4 h;rw[plL,Js];omega
omit h in
theorem Il{α β:Type}{g:β->α->β}{s:β}{l:List α}{i:Nat}{a:α}(hi:l[i]? =some a):(l.take (i+1)).foldl g s=g ((l.take i).foldl g s) a:=by
 rw[List.take_add_one,hi,List.foldl_append];rfl
theorem Bc{i:Nat}{a:Int}(hi:(bH beh n).tail[i]? =some a):∃ c:Nat,a=c/\a9 beh n c/\cV beh n c=i+1/\c≠0:=by
 obtain⟨t,ht⟩:=vr h.to h.pos;obtain⟨m,e,hm,hp⟩:=EX h (i:=i+1) (x:=a) (by rw[ht] at hi ⊢;simpa using hi);refine⟨m,e,hm,hp,fun e=>?_⟩;have:=(pT h).lJ;rw[e] at hp;omega
theorem Kd{c:Nat}(rc:a9 beh n c)(C:c≠0):∃ i,(bH beh n).tail[i]? =some (c:Int)/\cV beh n c=i+1:=by
 obtain⟨t,ht⟩:=vr h.to h.pos;obtain⟨i,hi,_,hp⟩:=vZ h rc;cases i with
 |zero=>exact absurd ((pT h).inj c 0 rc (pT h).root (by rw[hp,(pT h).lJ])) C
 |succ i=>exact⟨i,by rw[ht] at hi ⊢;simpa using hi,hp⟩
theorem yp(c:Nat):∀ a∈ahd c,0<=a:=fun a ha=>((h.ni c a).1 ha).1
theorem vJ{c a:Nat}(ra:a9 beh n a):(a:Int)∈ahd c↔fQ beh a c:=by
 rw[h.ni];have:=BB h ra;simp only[b9,fQ];exact⟨fun x=>x.2.2,fun x=>⟨oG,this,x⟩⟩
def ab0(beh:Nat->List Int)(n k x:Nat):Prop:=a9 beh n x/\cV beh n x<k
omit h in
theorem Ec(hn:0<n)(x:Nat):ct (iK n) x=if x=0 then 0 else -1:=by
 have:=tW (out:=List.replicate n (-1)) (b:=0) (x:=x) (q:=0) (by simpa using hn);unfold iK;rw[this]
 have e:ct (List.replicate n (-1)) (x:Int)= -1:=by
  unfold ct;rw[aV,List.getElem?_replicate];split<;>rfl
 rw[e]
theorem Ed:∀ i,i<=(bH beh n).tail.length->let s:=((bH beh n).tail.take i).foldl (gO (plL beh n) ahd) (iK n,false)
 sR (fQ beh) (a9 beh n) (cV beh n) (cq s.1) (i+1)/\wJ (ab0 beh n (i+1)) n s.1/\(0<i->s.2=true)
 |0,_=>by
  have g:=pT h;refine⟨.start g (by show(ct (iK n) ((0:Nat):Int)).toNat=0;rw[Ec h.pos];rfl),⟨by simp[iK],fun x hx=>?_,fun x hx=>?_⟩,fun h=>absurd h (Nat.lt_irrefl 0)⟩
  .have:x=0:=g.inj x 0 hx.1 g.root (by rw[g.lJ];have:=hx.2;omega);show 0<=ct (iK n) x;rw[Ec h.pos,if_pos this];omega
  .show ct (iK n) x= -1;rw[Ec h.pos,if_neg fun e=>hx (by subst e;exact⟨g.root,by rw[g.lJ];omega⟩)]
 |i+1,hi=>by
  have g:=pT h;obtain⟨h1,h2,h3⟩:=Ed i oG;have hx:=aK (show i<(bH beh n).tail.length from hi);obtain⟨c,e,rc,hp,X⟩:=Bc h hx;rw[e] at hx;simp only;rw[Il hx];generalize ((bH beh n).tail.take i).foldl (gO (plL beh n) ahd) (iK n,false)=s at h1 h2 h3;obtain⟨out,fl⟩:=s;dsimp only at h1 h2 h3 ⊢;have hc:ct out (c:Int)= -1:=h2.un c fun hv=>by have:=hv.2;omega
  have C:=BB h rc;rcases EG (l:=ahd c) (plL:=plL beh n) (pl:=cV beh n) (fun x hx=>zd h hx.1) (fun x hx=>EY h hx.1) h2 h1.tree g.lJ (fun x a rx ra=>g.inj x a rx.1 ra.1) (yp h c) with⟨q1,q2⟩|⟨q,q1,q2,q3,q4⟩
  .obtain⟨t,t1,t2,t3⟩:=g.pre c X rc;exact absurd ⟨t2,by rw[b9];omega⟩ (q2 t ((vJ h t2).2 t1))
  .have e':gO (plL beh n) ahd (out,fl) c=(out.set c q,true):=by
    unfold gO;simp only[b9,q1,hc];rw[if_neg oG]
   rw[e'];dsimp only;rw[Kc (by rw[h2.len];exact C)];refine⟨h1.step g rc X oG q2.1 (fun a ea ra hl=>?_) (fun w hw=>q4 w fun a ha J=>?_),⟨by simp[h2.len],fun x hx=>?_,fun x hx=>?_⟩,fun _=>rfl⟩
   .simpa using q3 a ((vJ h ra).2 ea) ⟨ra,by rw[b9];omega⟩
   .have tH:=yp h c a ha;obtain⟨m,rfl⟩:=dd tH;exact hw m ((vJ h J.1).1 ha) J.1 J.2
   .rw[tW (by rw[h2.len];exact C)];split
    .omega
    .rename_i ap
     exact h2.set x ⟨hx.1,by
      rcases Nat.lt_or_ge (cV beh n x) (i+1) with M|M
      .exact M
      .exact absurd (g.inj x c hx.1 rc (by have:=hx.2;omega)) ap⟩
   .rw[tW (by rw[h2.len];exact C),if_neg fun e=>hx (by rw[e];exact⟨rc,oG⟩)];exact h2.un x fun hv=>hx ⟨hv.1,by have:=hv.2;omega⟩
theorem I0:sC beh n (mI (plL beh n) ahd (bH beh n).tail (iK n)).1/\((mI (plL beh n) ahd (bH beh n).tail (iK n)).2=false->(bH beh n).tail=[]):=by
 obtain⟨h1,h2,h3⟩:=Ed h _ (aU _);rw[List.take_length] at h1 h2 h3;unfold mI;obtain⟨t,ht⟩:=vr h.to h.pos
 have C:∀ x,a9 beh n x->cV beh n x<(bH beh n).tail.length+1:=fun x hx=>by
  have:=zc h hx;rw[ht] at this ⊢;simpa using this
 refine⟨⟨h1.fin C,h2.len,fun x hx=>h2.set x ⟨hx,C x hx⟩,fun x hx=>h2.un x fun hv=>hx hv.1⟩,fun e=>?_⟩;cases hl:(bH beh n).tail with
 |nil=>rfl
 |cons a l=>rw[hl] at h3 e;rw[h3 oS] at e;cases e
theorem Ee{out:List Int}(ho:sC beh n out):∀ i,i<=(bH beh n).tail.length->let s:=((bH beh n).tail.take i).foldl (gO (plL beh n) ahd) (out,false)
 uF (fQ beh) (a9 beh n) (cV beh n) (cq out) (cq s.1) (i+1)/\wJ (a9 beh n) n s.1/\(∀ x,a9 beh n x->cV beh n (cq s.1 x)<=cV beh n (cq out x))/\
 (s.2=true->∃ x,a9 beh n x/\x≠0/\cV beh n (cq s.1 x)<cV beh n (cq out x))/\
 (s.2=false->s.1=out/\∀ c,a9 beh n c->c≠0->cV beh n c<i+1->∀ a,fQ beh a c->a9 beh n a->bb (cq out) (cq out c) a)
 |0,_=>by
  have g:=pT h;refine⟨ho.1.start g,ho.2,fun _ _=>aU _,fun e=>by exact Bool.noConfusion e,fun _=>⟨rfl,fun c rc J hl=>absurd (g.inj c 0 rc g.root (by rw[g.lJ];omega)) J⟩⟩
 |i+1,hi=>by
  have g:=pT h;obtain⟨h1,h2,h3,h4,h5⟩:=Ee ho i oG;have hx:=aK (show i<(bH beh n).tail.length from hi);obtain⟨c,e,rc,hp,J⟩:=Bc h hx;rw[e] at hx;simp only;rw[Il hx];generalize ((bH beh n).tail.take i).foldl (gO (plL beh n) ahd) (out,false)=s at h1 h2 h3 h4 h5;obtain⟨o,fl⟩:=s;dsimp only at h1 h2 h3 h4 h5 ⊢;have gR:=BB h rc;rcases EG (l:=ahd c) (plL:=plL beh n) (pl:=cV beh n) (fun x hx=>zd h hx) (fun x hx=>EY h hx) h2 h1.tree g.lJ g.inj (yp h c) with⟨q1,q2⟩|⟨q,q1,q2,q3,q4⟩
  .obtain⟨t,t1,t2,t3⟩:=g.pre c J rc;exact absurd t2 (q2 t ((vJ h t2).2 t1))
  .have hq:∀ a,fQ beh a c->a9 beh n a->bb (cq o) q a:=fun a X ra=>by simpa using q3 a ((vJ h ra).2 X) ra
   have hm:∀ w,(∀ a,fQ beh a c->a9 beh n a->bb (cq o) w a)->bb (cq o) w q:=fun w hw=>q4 w fun a ha va=>by
    obtain⟨m,rfl⟩:=dd (yp h c a ha);exact hw m ((vJ h va).1 ha) va
   obtain⟨up,st⟩:=h1.step g rc J oG q2 hq hm;obtain⟨p1,_⟩:=h1.tree.par c rc J;obtain⟨_,lo⟩:=h1.tree.low p1 up;by_cases hs:ct o (c:Int)=q
   .have e':gO (plL beh n) ahd (o,fl) c=(o,fl):=by
     unfold gO;simp only[b9,q1];rw[if_pos hs]
    have eo:cq o c=q:=by unfold cq;rw[hs];simp
    have eu:iC (cq o) c q=cq o:=by
     funext x;unfold iC;split
     .rename_i C;rw[C,eo]
     .rfl
    rw[eu] at st;rw[e'];refine⟨st,h2,h3,h4,fun ef=>?_⟩;obtain⟨Rt,hf⟩:=h5 ef;refine⟨Rt,fun x M xz hl a X ra=>?_⟩;by_cases C:x=c
    .subst C;rw[<- Rt,eo];exact hq a X ra
    .exact hf x M xz (by
      rcases Nat.lt_or_ge (cV beh n x) (i+1) with g'|g'
      .exact g'
      .exact absurd (g.inj x c M rc oG) C) a X ra
   .have e':gO (plL beh n) ahd (o,fl) c=(o.set c q,true):=by
     unfold gO;simp only[b9,q1];rw[if_neg hs]
    have af:cV beh n q<cV beh n (cq o c):=by
     rcases lo with lo|lo
     .refine absurd ?_ hs;rw[lo];unfold cq;rw[Int.toNat_of_nonneg (h2.set c rc)]
     .exact lo
    rw[e'];dsimp only;rw[Kc (by rw[h2.len];exact gR)];refine⟨st,⟨by simp[h2.len],fun x hx=>?_,fun x hx=>?_⟩,fun x M=>?_,fun _=>⟨c,rc,J,by rw[nX];exact Nat.lt_of_lt_of_le af (h3 c rc)⟩,fun e=>by cases e⟩
    .rw[tW (by rw[h2.len];exact gR)];split
     .omega
     .exact h2.set x hx
    .rw[tW (by rw[h2.len];exact gR),if_neg fun e=>hx (by rw[e];exact rc)];exact h2.un x hx
    .by_cases C:x=c
     .subst C;rw[nX];exact Nat.le_trans (Nat.le_of_lt af) (h3 x M)
     .rw[lh q C];exact h3 x M
theorem DO{out:List Int}(J:sC beh n out):let s:=mI (plL beh n) ahd (bH beh n).tail out
 sC beh n s.1/\(∀ x,a9 beh n x->cV beh n (cq s.1 x)<=cV beh n (cq out x))/\
 (s.2=true->∃ x,a9 beh n x/\x≠0/\cV beh n (cq s.1 x)<cV beh n (cq out x))/\
 (s.2=false->s.1=out/\∀ c,a9 beh n c->c≠0->∀ a,fQ beh a c->a9 beh n a->bb (cq out) (cq out c) a):=by
 obtain⟨h1,h2,h3,h4,h5⟩:=Ee h J _ (aU _);rw[List.take_length] at h1 h2 h3 h4 h5;obtain⟨t,ht⟩:=vr h.to h.pos
 have C:∀ x,a9 beh n x->cV beh n x<(bH beh n).tail.length+1:=fun x hx=>by
  have:=zc h hx;rw[ht] at this ⊢;simpa using this
 exact⟨⟨h1.fin C,h2⟩,h3,h4,fun e=>⟨(h5 e).1,fun c rc M=>(h5 e).2 c rc M (C c rc)⟩⟩
end
section
variable{beh ahd:Nat->List Int}{n:Nat}(h:oi beh ahd n)
include h
def EZ(beh:Nat->List Int)(n:Nat)(out:List Int):Prop:=sC beh n out/\∀ c,a9 beh n c->c≠0->∀ a,fQ beh a c->a9 beh n a->bb (cq out) (cq out c) a
def AD(beh:Nat->List Int)(n:Nat)(out:List Int):Nat:=((bH beh n).tail.map fun b=>cV beh n (cq out b.toNat)).sum
omit h in
theorem Mq{l:List Int}{f g:Int->Nat}(hl:∀ x∈l,f x<=g x):(l.map f).sum<=(l.map g).sum/\((∃ x∈l,f x<g x)->(l.map f).sum<(l.map g).sum):=by
 induction l with
 |nil=>exact⟨aU _,fun⟨x,hx,_⟩=>by simp at hx⟩
 |cons a l ih=>
  obtain⟨i1,i2⟩:=ih fun x hx=>hl x (by simp[hx]);have ha:=hl a oS;simp only[List.map_cons,List.sum_cons];refine⟨oG,fun⟨x,hx,af⟩=>?_⟩;rcases List.mem_cons.1 hx with e|e
  .subst e;omega
  .have:=i2 ⟨x,e,af⟩;omega
theorem WR{out:List Int}(C:sC beh n out):AD beh n out<=n*n:=by
 have h1:AD beh n out<=((bH beh n).tail.map fun _=>n).sum:=(Mq fun x hx=>by
  obtain⟨i,hi⟩:=cU hx;obtain⟨c,rfl,rc,_,J⟩:=Bc h hi;have:=zc h (C.1.tree.par c rc J).1;have:=y4 h;simp only[b9]
  omega).1
 have h2:((bH beh n).tail.map fun _=>n).sum=(bH beh n).tail.length*n:=by
  generalize (bH beh n).tail=l;clear h1
  induction l with
  |nil=>simp
  |cons a l ih=>simp only[List.map_cons,List.sum_cons,ih,List.length_cons,Nat.succ_mul];omega
 have h3:(bH beh n).tail.length<=n:=by have:=y4 h;rw[List.length_tail];omega
 have:=Nat.mul_le_mul_right n h3;omega
theorem WS{out:List Int}(C:sC beh n out)(hc:(mI (plL beh n) ahd (bH beh n).tail out).2=true):AD beh n (mI (plL beh n) ahd (bH beh n).tail out).1<AD beh n out:=by
 obtain⟨_,h2,h3,_⟩:=DO h C;obtain⟨x,J,M,af⟩:=h3 hc;refine(Mq fun b hb=>?_).2 ?_
 .obtain⟨i,hi⟩:=cU hb;obtain⟨c,rfl,rc,_,X⟩:=Bc h hi;exact h2 _ (by simpa using rc)
 .obtain⟨i,hi,_⟩:=Kd h J M;exact⟨x,bJ hi,by simpa using af⟩
def w8(beh ahd:Nat->List Int)(n:Nat)(F:List Int)(k:Nat)(out:List Int):Prop:=
 Bq (plL beh n) ahd (bH beh n).tail k out=F/\(out=iK n/\n*n+1<k\/sC beh n out/\AD beh n out<k)
theorem DN{F out:List Int}{k:Nat}(hs:w8 beh ahd n F k out):let s:=mI (plL beh n) ahd (bH beh n).tail out
 0<k/\(s.2=true->w8 beh ahd n F (k - 1) s.1)/\(s.2=false->s.1=F/\EZ beh n F):=by
 obtain⟨e,hs⟩:=hs;have hk:0<k:=by rcases hs with⟨_,hs⟩|⟨_,hs⟩<;>omega
 obtain⟨k,rfl⟩:∃ j,k=j+1:=⟨k - 1,oG⟩
 rw[Bq] at e;refine⟨hk,fun hc=>?_,fun hc=>?_⟩
 .rw[if_pos hc] at e;refine⟨e,.inr ?_⟩;rcases hs with⟨rfl,hs⟩|⟨C,hs⟩
  .have:=(I0 h).1;exact⟨this,by have:=WR h this;omega⟩
  .exact⟨(DO h C).1,by have:=WS h C hc;omega⟩
 .rw[if_neg (by rw[hc];exact Bool.noConfusion)] at e;refine⟨e,?_⟩;rw[<- e];rcases hs with⟨rfl,hs⟩|⟨C,hs⟩
  .obtain⟨J,X⟩:=I0 h;refine⟨J,fun c rc M=>?_⟩;obtain⟨i,hi,_⟩:=Kd h rc M;rw[X hc] at hi;simp at hi
  .obtain⟨J,_,_,p4⟩:=DO h C;obtain⟨q1,q2⟩:=p4 hc;rw[q1];exact⟨C,q2⟩
def Od(C:List Int)(n:Nat)(o:List Int)(V:Nat->Prop)(pl:Nat->Nat):Prop:=
 o.length=n/\(∀ x,V x->x<n/\pl x<n)/\(∀ x:Nat,¬ ct o x= -1->V x)/\
 (∀ l:List Int,(∀ a∈l,0<=a)->jZ C o l= -1\/∃ q:Nat,jZ C o l=q/\V q)/\
 (∀ x a:Nat,V x->V a->x≠a->if jb C a<jb C x then(∃ y:Nat,ct o x=y/\V y/\pl y<pl x) else(∃ y:Nat,ct o a=y/\V y/\pl y<pl a))
theorem Mr{V:Nat->Prop}{o:List Int}(ht:gJ V (cV beh n) (cq o))(hg:wJ V n o)(J:∀ x,V x->a9 beh n x):Od (plL beh n) n o V (cV beh n):=by
 have g:=pT h
 have lt:∀ x,V x->cV beh n x<n:=fun x C=>by
  have:=zc h (J x C);have:=y4 h;omega
 refine⟨hg.len,fun x C=>⟨BB h (J x C),lt x C⟩,fun x hx=>?_,fun l hl=>?_,fun x a C M X=>?_⟩
 .exact Classical.byContradiction fun hn=>hx (hg.un x hn)
 .rcases EG (plL:=plL beh n) (pl:=cV beh n) (fun x C=>zd h (J x C)) (fun x C=>EY h (J x C)) hg ht g.lJ (fun x a C M=>g.inj x a (J x C) (J a M)) hl with⟨h1,_⟩|⟨q,h1,h2,_⟩
  .exact .inl h1
  .exact .inr ⟨q,h1,h2⟩
 .rw[zd h (J x C),zd h (J a M)]
  have hs:∀ x,V x->x≠0->∃ y:Nat,ct o x=y/\V y/\cV beh n y<cV beh n x:=fun x C hz=>by
   obtain⟨p1,p2⟩:=ht.par x C hz;exact⟨cq o x,by unfold cq;rw[Int.toNat_of_nonneg (hg.set x C)],p1,p2⟩
  have h0:=g.lJ;split
  .rename_i hl;exact hs x C fun e=>by rw[e,h0] at hl;omega
  .rename_i hl
   exact hs a M fun e=>by
    subst e;exact X (g.inj x 0 (J x C) (J 0 M) oG)
theorem UM{F out:List Int}{k:Nat}(hs:w8 beh ahd n F k out):out.length=n/\∀ j,j<=(bH beh n).tail.length->
 ∃ (V:Nat->Prop) (pl:Nat->Nat),Od (plL beh n) n (((bH beh n).tail.take j).foldl (gO (plL beh n) ahd) (out,false)).1 V pl:=by
 rcases hs.2 with⟨rfl,_⟩|⟨C,_⟩
 .refine⟨by simp[iK],fun j hj=>?_⟩;obtain⟨h1,h2,_⟩:=Ed h j hj;exact⟨_,_,Mr h h1.tree h2 fun x hx=>hx.1⟩
 .refine⟨C.2.len,fun j hj=>?_⟩;obtain⟨h1,h2,_⟩:=Ee h C j hj;exact⟨_,_,Mr h h1.tree h2 fun x hx=>hx⟩
def uE(beh ahd:Nat->List Int)(n:Nat):List Int:=Bq (plL beh n) ahd (bH beh n).tail (n*n+2) (iK n)
def dQ(beh ahd:Nat->List Int)(n:Nat):List Int:=(uE beh ahd n).set 0 (-1)
omit h in
theorem IY:w8 beh ahd n (uE beh ahd n) (n*n+2) (iK n):=⟨rfl,.inl ⟨rfl,oG⟩⟩
theorem Ke{F:List Int}:∀ {k:Nat} {out:List Int},w8 beh ahd n F k out->EZ beh n F
 |0,out,hs=>absurd (DN h hs).1 (Nat.lt_irrefl 0)
 |k+1,out,hs=>by
  obtain⟨_,h2,h3⟩:=DN h hs;cases e:(mI (plL beh n) ahd (bH beh n).tail out).2 with
  |true=>exact Ke (h2 e)
  |false=>exact(h3 e).2
theorem tX:EZ beh n (uE beh ahd n):=Ke h IY
theorem tK:(dQ beh ahd n).length=n:=by
 unfold dQ;rw[List.length_set];exact(tX h).1.2.len
theorem Dp(x:Nat):ct (dQ beh ahd n) x=if x=0 then -1 else ct (uE beh ahd n) x:=by
 unfold dQ;exact tW (b:=0) (by rw[(tX h).1.2.len];exact h.pos)
def sS(beh:Nat->List Int)(a b:Nat):Prop:=¬ Av (fQ beh) a b
def dB(beh ahd:Nat->List Int)(n:Nat):Nat->Nat:=cq (uE beh ahd n)
theorem mL:gJ (a9 beh n) (cV beh n) (dB beh ahd n):=(tX h).1.1.tree
theorem v8{a b:Nat}(C:a9 beh n b):bb (dB beh ahd n) a b↔sS beh a b:=(tX h).1.1.pJ (pT h) (tX h).2 C
theorem ES{b:Nat}(J:a9 beh n b)(C:b≠0):ct (dQ beh ahd n) b=(dB beh ahd n b:Nat)/\a9 beh n (dB beh ahd n b)/\cV beh n (dB beh ahd n b)<cV beh n b:=by
 refine⟨?_,(mL h).par b J C⟩;rw[Dp h,if_neg C];unfold dB cq;rw[Int.toNat_of_nonneg ((tX h).1.2.set b J)]
theorem VS{b:Nat}(C:¬ a9 beh n b):ct (dQ beh ahd n) b= -1:=by
 rw[Dp h];split
 .rfl
 .exact(tX h).1.2.un b C
theorem UW:ct (dQ beh ahd n) (0:Nat)= -1:=by
 rw[Dp h,if_pos rfl]
end
section
variable{beh ahd:Nat->List Int}{n:Nat}(h:oi beh ahd n)
include h
end
section
variable{cnt:List Bool}{ahd:Nat->List Int}{n:Nat}(vf:∀ b,∀ a∈ahd b,0<=a/\a.toNat<n)
include vf
end
section
variable{beh ahd:Nat->List Int}{n:Nat}(h:oi beh ahd n)
include h
end
end Go.Argus
section
open Go Go.Abs Go.Proofs Go.Argus
namespace Go.Proofs.Tryz.K
set_option maxRecDepth 10000
theorem KI(n:Nat)(b:Int):replD n [I b]=(List.replicate n b).map I:=by
 unfold replD
 induction n with
 |zero=>rfl
 |succ n ih=>rw[List.replicate_succ,List.replicate_succ,List.flatten_cons,List.map_cons,ih];rfl
theorem HQ{n:Nat}{x:Int}(X:n<=100000):OCall prog 94 [I n,I x] ((List.replicate n x).map I) n 3:=by
 refine uW PI (.cons (Tr.s _) (.cons (Tr.s _) .nil)) (.map fun _=>.s _) ?_;rw[aby];refine ws ?_;refine SS ?_;refine aa (ax ?_);have C:((n:Nat):Int).toNat=n:=b9 n;refine SS ?_;refine fa (xX rfl rfl V.h V.h) ak ⟨oG,rfl,oG,by rw[b3];omega,V.h⟩ ?_;refine SS ?_;refine aa (aR (bg (l:=[(1,I x),(5,.rs 0 0 n)]) (ml:=[(0,.cells ((List.replicate n (0:Int)).map I) 3)]) ⟨rfl,?_,trivial⟩ ⟨?_,trivial⟩) (aB (ax ?_)))
 .exact congrArg (fun k=>D.rs 0 0 k) C
 .exact congrArg (fun c=>some (Row.cells c 3)) ((congrArg (fun k=>replD k [I 0]) C).trans (KI n 0))
 refine av ?_
 refine aa (cN (fun s=>Ghost prog s ⟨aw [(5,.rs 0 0 n)],bi [(0,.cells ((List.replicate n x).map I) 3)],1⟩) (cG (α:=Nat)
  (fun k=>⟨aw [(1,I x),(5,.rs 0 0 n),(10,I n),(11,I k)],bi [(0,.cells ((List.replicate k x++List.replicate (n - k) 0).map I) 3)],1⟩)
  (fun k=>k<=n) (fun k=>n - k) 0 (bg eH eH) oG ?_) ?_)
 .intro k hk;refine SS ?_;refine aa ⟨_,rfl,fun h=>?_,fun h=>?_⟩
  .have af:k<n:=by simpa using h
   have J:=KC (x:=x) (y:=0) af;have hl:(List.replicate k x++List.replicate (n - k) (0:Int)).length=n:=by simp;omega
   refine ws ?_;refine ab ?_;refine aa (fY ?_);refine aQ ?_;refine aa ?_;refine ab ?_;refine aa (aJ (k+1) (bg eH ⟨?_,trivial⟩) oG oG);rw[<- J,List.map_set];rfl
  .have M:¬ k<n:=by simpa using h
   have:k=n:=by omega
   subst this;refine bg eH ⟨?_,trivial⟩;rw[Nat.sub_self,List.replicate_zero,List.append_nil];rfl
 rintro s hg;refine⟨_,hg,ai ?_⟩;refine ab ?_;refine aa (az rfl ⟨0,rfl,rfl⟩)
set_option maxHeartbeats 1000000 in
theorem oO{f:aC}{beh ahd:List (List Int)}{c:D}(hc:Tr c)(dX:c.one=true){n:Nat}(hn:beh.length=n)(vd:ahd.length=n)(kN:f.blocks.length=n)(iX:n<=1200)(hg:oi (ah beh) (ah ahd) n)(bV:∀ b,(ah beh b).length<=100000)(ng:∀ b,(ah ahd b).length<=100000):
 PCall prog 60 [.pt (aM f beh ahd c)] (ao (dQ (ah beh) (ah ahd) n)):=by
 have iW:=hg.pos;have xL:=xL (f:=f) (beh:=beh) (ahd:=ahd) hc dX hn kN iW oG hg.to bV;refine bd PJ (.cons (tN hc) .nil) (cH _) ?_;rw[abz];refine ws ?_;refine SS ?_;refine aa (ax ?_);have HR:=IY (beh:=ah beh) (ahd:=ah ahd) (n:=n);have Rh:dQ (ah beh) (ah ahd) n=(uE (ah beh) (ah ahd) n).set 0 (-1):=rfl;have Ay:=vU hg;have qP:=y4 hg;have eV:plL (ah beh) n=wk (bH (ah beh) n) n:=rfl;obtain⟨T,hT⟩:=vr hg.to iW;have w7:=fun F k out=>DN (beh:=ah beh) (ahd:=ah ahd) (n:=n) hg (F:=F) (k:=k) (out:=out);have pE:=fun F k out=>UM (beh:=ah beh) (ahd:=ah ahd) (n:=n) hg (F:=F) (k:=k) (out:=out);rw[Rh];clear Rh;generalize uE (ah beh) (ah ahd) n=F at HR ⊢;have w7:=w7 F;have pE:=pE F;generalize bH (ah beh) n=O at xL Ay qP eV hT w7 pE;refine SS ?_;refine ww xL rfl bF ?_;refine SS ?_;have dp:((f.blocks.length:Nat):Int).toNat=n:=kN;refine aa (aR (oX (i:=0) (e:=3) (cs:=O.map I) (l:=[(0,.pt (aM f beh ahd c)),(3,ao O)]) (ml:=[]) rfl ⟨rfl,?_,trivial⟩ trivial) (ax ?_))
 .exact nA (by rw[c3];simp)
 refine bC ?_;refine fa (xX rfl rfl V.h V.h) ak ⟨oG,rfl,oG,by rw[b3];omega,V.h⟩ ?_;refine SS ?_;refine aa (aR (bg (l:=[(0,.pt (aM f beh ahd c)),(3,ao O),(4,.rs 1 0 n)]) (ml:=[(1,.cells ((oU O n 0).map I) 3)]) ⟨rfl,rfl,?_,trivial⟩ ⟨?_,trivial⟩) (aB (ax ?_)))
 .exact congrArg (fun k=>D.rs 1 0 k) dp
 .exact congrArg (fun c=>some (Row.cells c 3)) ((congrArg (fun k=>replD k [I 0]) dp).trans (KI n 0))
 refine av ?_
 refine aa (cN (fun s=>Ghost prog s ⟨aw [(0,.pt (aM f beh ahd c)),(3,ao O),(4,.rs 1 0 n)],bi [(1,.cells ((wk O n).map I) 3)],2⟩) (cG (α:=Nat)
  (fun k=>⟨aw [(0,.pt (aM f beh ahd c)),(3,ao O),(4,.rs 1 0 n),(23,ao O),(24,I O.length),(25,I k)],bi [(1,.cells ((oU O n k).map I) 3)],2⟩)
  (fun k=>k<=O.length) (fun k=>O.length - k) 0 (bg eH eH) (Nat.zero_le _) ?_) ?_)
 .intro k hk;clear xL w7 pE;have hpk:=Bp (ord:=O) (n:=n) k;refine SS ?_;refine aa ⟨_,rfl,fun h=>?_,fun h=>?_⟩
  .have af:k<O.length:=by simpa using h
   have hx:O[k]? =some O[k]:=aK af;have z7:=Ay _ (cZ af);have J:oU O n (k+1)=(oU O n k).set (O.getD k 0).toNat k:=rfl;rw[getD_some hx] at J;generalize O[k]=b at hx z7 J;obtain⟨C,rfl⟩:=dd z7.1;have mw:C<n:=z7.2;rw[b9] at J;refine ws ?_;refine aQ ?_;refine aa (fY ?_);refine aQ ?_;refine aa ?_;refine ab ?_;refine aa (aJ (k+1) (bg eH ⟨?_,trivial⟩) oG oG);rw[J,List.map_set];rfl
  .have ba:¬ k<O.length:=by simpa using h
   have:k=O.length:=by omega
   subst this;exact bg eH eH
 have zK:(wk O n).length=n:=Js;rw[<- eV] at zK ⊢;clear eV;generalize plL (ah beh) n=PL at zK w7 pE ⊢;rintro s hg0;refine⟨_,hg0.trans (oX (i:=1) (e:=3) (cs:=PL.map I) (l:=[(0,.pt (aM f beh ahd c)),(3,ao O),(4,ao PL)]) (ml:=[]) rfl ⟨rfl,rfl,?_,trivial⟩ trivial),ax ?_⟩
 .exact(nA (by rw[c3];simp[zK])).trans (by rw[ao,zK])
 have HQ:OCall prog 94 [I f.blocks.length,I (-1)] ((List.replicate n (-1)).map I) n 3:=by rw[kN];exact HQ oG
 clear xL;refine bC ?_;refine ww HQ rfl bF ?_;refine SS ?_;refine aa (aR (bg (l:=[(0,.pt (aM f beh ahd c)),(3,ao O),(4,ao PL),(7,.rs 2 0 n)]) (ml:=[(2,.cells ((List.replicate n (-1)).map I) 3)]) ⟨rfl,rfl,rfl,?_,trivial⟩ eH) (ax ?_))
 .exact congrArg (fun k=>D.rs 2 0 k) oS
 have u9:(List.replicate n (-1:Int))[0]? =some (-1):=by simp[iW]
 refine av ?_;refine aa (aR (bg (l:=[(0,.pt (aM f beh ahd c)),(3,ao O),(4,ao PL),(7,.rs 2 0 n)]) (ml:=[(2,.cells ((iK n).map I) 3)]) eH ⟨?_,trivial⟩) (aB (ax ?_)))
 .unfold iK;rw[List.map_set];rfl
 clear u9;refine SS ?_
 refine aa (cN (fun s=>Ghost prog s ⟨aw [(7,.rs 2 0 n)],bi [(2,.cells (F.map I) 3)],3⟩/\F.length=n) (Bj (α:=Nat×List Int×Bool)
  (fun s=>⟨aw [(0,.pt (aM f beh ahd c)),(3,ao O),(4,ao PL),(7,.rs 2 0 n),(8,B s.2.2)],bi [(2,.cells (s.2.1.map I) 3)],3⟩)
  (fun s=>s.2.1.length=n/\(s.2.2=true->w8 (ah beh) (ah ahd) n F s.1 s.2.1)/\(s.2.2=false->s.2.1=F)) (fun s=>2*s.1+if s.2.2=true then 1 else 0) (n*n+2,iK n,true)
  (bg eH eH) ⟨by simp[iK],fun _=>HR,fun h=>by cases h⟩ ?_) ?_)
 .clear HR;rintro⟨k,out,ch⟩ ⟨PK,oQ,zA⟩;dsimp only at PK oQ zA ⊢;refine SS ?_;refine aa ⟨_,rfl,fun h0=>?_,fun h=>?_⟩
  .have hS:=oQ h0;obtain⟨fT,dz,HS⟩:=w7 _ _ hS;obtain⟨_,pE⟩:=pE _ _ hS;subst hT;refine ws ?_;refine SS ?_;refine aa (ax ?_);have afd:T.length+1<=n:=by simpa using qP
   have PM:(0::T).length=T.length+1:=rfl;refine SS ?_;refine au (Bg rfl V.h V.h rfl rfl rfl) ak ⟨V.h,oG,oG,oG⟩ ?_;refine ab ?_;simp only[List.tail_cons] at pE
   refine aa (cG (α:=Nat)
    (fun j=>⟨aw [(0,.pt (aM f beh ahd c)),(3,ao (0::T)),(4,ao PL),(7,.rs 2 0 n),(8,B ((T.take j).foldl (gO PL (ah ahd)) (out,false)).2),(46,ao T),(47,I T.length),(48,I j)],bi [(2,.cells (((T.take j).foldl (gO PL (ah ahd)) (out,false)).1.map I) 3)],3⟩)
    (fun j=>j<=T.length) (fun j=>T.length - j) 0 (bg ⟨rfl,rfl,rfl,rfl,rfl,?_,?_,rfl,trivial⟩ eH) (Nat.zero_le _) ?_)
   .have e:((((0:Int)::T).length:Int) - 1).toNat=T.length:=by rw[PM];omega
    show D.sl (List.take (((((0:Int)::T).length:Int) - 1).toNat*1) (List.map I T)) ((((0:Int)::T).length:Int) - 1).toNat=ao T;rw[e,Nat.mul_one,ao,ez oS]
   .exact congrArg I (by rw[PM];omega)
   intro j hj;have cO:∀ b,T[j]? =some b->(T.take (j+1)).foldl (gO PL (ah ahd)) (out,false)=gO PL (ah ahd) ((T.take j).foldl (gO PL (ah ahd)) (out,false)) b:=fun b hb=>rG (f:=gO PL (ah ahd)) hb;have iJ:j=T.length->(T.take j).foldl (gO PL (ah ahd)) (out,false)=mI PL (ah ahd) T out:=fun e=>by rw[e,List.take_length];rfl
   obtain⟨VV,pl,hV⟩:=pE j hj;generalize (T.take j).foldl (gO PL (ah ahd)) (out,false)=s at cO iJ hV;obtain⟨o,fl⟩:=s;dsimp only at hV ⊢;obtain⟨HT,Az,Ri,PN,iT⟩:=hV;refine SS ?_;refine aa ⟨_,rfl,fun h=>?_,fun h=>?_⟩
   .have af:j<T.length:=by simpa using h
    have AA:T[j]? =some T[j]:=aK af;have HU:=Ay T[j] oS;generalize T[j]=b at AA HU;obtain⟨C,rfl⟩:=dd HU.1;have mw:C<n:=HU.2;have J:=cO _ AA;have AB:gO PL (ah ahd) (o,fl) (C:Int)=if ct o C=jZ PL o (ah ahd C) then(o,fl) else(o.set C (jZ PL o (ah ahd C)),true):=rfl
    rw[AB] at J;clear AB;refine ws ?_;refine av ?_;refine er ?_;refine SS ?_;have HV:ahd[C]? =some (ah ahd C):=nC oG;have oq:=yp hg C;have br:=ng C;have gA:=fun a=>(hg.ni C a).1;refine aa (aB (ax ?_));generalize ah ahd C=l at HV oq gA J br
    have dx:∀ i,(l.take i).foldl (iL PL o) (-1)= -1\/∃ q:Nat,(l.take i).foldl (iL PL o) (-1)=q/\VV q:=fun i=>by
     exact PN (l.take i) fun a h=>oq a (List.mem_of_mem_take h)
    refine aN ?_
    refine aa (cN (fun s=>Ghost prog s ⟨aw [(0,.pt (aM f beh ahd c)),(3,ao (0::T)),(4,ao PL),(7,.rs 2 0 n),(8,B fl),(10,I C),(11,I (jZ PL o l)),(46,ao T),(47,I T.length),(48,I j)],bi [(2,.cells (o.map I) 3)],3⟩) (cG (α:=Nat)
     (fun i=>⟨aw [(0,.pt (aM f beh ahd c)),(3,ao (0::T)),(4,ao PL),(7,.rs 2 0 n),(8,B fl),(10,I C),(11,I ((l.take i).foldl (iL PL o) (-1))),(46,ao T),(47,I T.length),(48,I j),(58,ao l),(59,I l.length),(60,I i)],bi [(2,.cells (o.map I) 3)],3⟩)
     (fun i=>i<=l.length) (fun i=>l.length - i) 0 (bg eH eH) (Nat.zero_le _) ?_) ?_)
    .intro i hi;have M:∀ a,l[i]? =some a->(l.take (i+1)).foldl (iL PL o) (-1)=iL PL o ((l.take i).foldl (iL PL o) (-1)) a:=fun a ha=>rG ha;have j9:i=l.length->(l.take i).foldl (iL PL o) (-1)=jZ PL o l:=fun e=>by rw[e,List.take_length];rfl
     have dx:=dx i;generalize (l.take i).foldl (iL PL o) (-1)=nx at dx M j9;refine SS ?_;refine aa ⟨_,rfl,fun h=>?_,fun h=>?_⟩
     .have fg:i<l.length:=by simpa using h
      have rh:l[i]? =some l[i]:=aK fg;have HW:=cZ fg;generalize l[i]=a at rh HW;have vf:=gA a HW;have M:=M a rh;obtain⟨X,rfl⟩:=dd vf.1;have Rj:X<n:=vf.2.1;refine ws ?_;refine av ?_;refine aa (aB (ai ?_))
      have fX:o[X]? =some (ct o X):=by
       have:=aK (show X<o.length by omega);rw[this];simp[ct,aV,this]
      have kd:=fM (f:=I) fX;have AB:iL PL o nx (X:Int)=if ct o X= -1 then nx else if nx= -1 then(X:Int) else pF PL o (2*PL.length) nx X:=rfl
      rw[AB] at M;clear AB;have HX:=Ri X;generalize ct o X=v at fX kd M HX;refine aQ ?_;refine aa (c6 rfl (fun h=>jK (o9 ?_)) fun h=>cu (aB (ai ?_)))
      .have hv:v= -1:=by simpa using h
       rw[if_pos hv] at M;refine ab ?_;refine aa (aJ (i+1) (bg ⟨rfl,rfl,rfl,rfl,rfl,rfl,?_,rfl,rfl,rfl,rfl,rfl,rfl,trivial⟩ eH) oG oG);rw[M];rfl
      .have hv:¬ v= -1:=by simpa using h
       have va:=HX hv;rw[if_neg hv] at M;clear HX kd fX;refine ab ?_;refine aa (c6 rfl (fun h=>aB (ai ?_)) fun h=>RW ?_)
       .have hx:nx= -1:=by simpa using h
        rw[if_pos hx] at M;refine ab ?_;refine aa (jK (o9 ?_));refine ab ?_;refine aa (aJ (i+1) (bg ⟨rfl,rfl,rfl,rfl,rfl,rfl,?_,rfl,rfl,rfl,rfl,rfl,rfl,trivial⟩ eH) oG oG);rw[M];rfl
       .have hx:¬ nx= -1:=by simpa using h
        rw[if_neg hx] at M;obtain⟨q,rfl,vq⟩:=dx.resolve_left hx;have M:(l.take (i+1)).foldl (iL PL o) (-1)=pF PL o (2*n) q X:=by rw[M,zK]
        have hvq:=Az q vq;have hva:=Az X va
        refine Bj (α:=Nat×Nat×Nat)
         (fun s=>⟨aw [(0,.pt (aM f beh ahd c)),(3,ao (0::T)),(4,ao PL),(7,.rs 2 0 n),(8,B fl),(10,I C),(11,I s.2.1),(13,I s.2.2),(46,ao T),(47,I T.length),(48,I j),(58,ao l),(59,I l.length),(60,I i)],bi [(2,.cells (o.map I) 3)],3⟩)
         (fun s=>VV s.2.1/\VV s.2.2/\pl s.2.1+pl s.2.2<s.1/\(l.take (i+1)).foldl (iL PL o) (-1)=pF PL o s.1 s.2.1 s.2.2) (fun s=>s.1) (2*n,q,X)
         (bg eH eH) ⟨vq,va,oM,M⟩ ?_
        clear vq va hvq hva M hv hx rh HW vf Rj;rintro⟨k,x,a⟩ ⟨vx,va,rk,eh⟩;dsimp only at vx va rk eh ⊢;refine av ?_;refine aa ⟨_,rfl,fun h=>?_,fun h=>?_⟩
        .have ap:¬ (x:Int)=a:=by simpa using h
         obtain⟨k,rfl⟩:∃ k',k=k'+1:=⟨k - 1,oG⟩
         rw[pF,if_neg ap] at eh;have hxn:=Az x vx;have Rj:=Az a va;have iT:=iT x a vx va oG
         have hpx:PL[x]? =some (jb PL x):=by
          have:=aK (show x<PL.length by omega);rw[this];simp[jb,aV,this]
         have ou:PL[a]? =some (jb PL a):=by
          have:=aK (show a<PL.length by omega);rw[this];simp[jb,aV,this]
         have xD:o[x]? =some (ct o x):=by
          have:=aK (show x<o.length by omega);rw[this];simp[ct,aV,this]
         have fX:o[a]? =some (ct o a):=by
          have:=aK (show a<o.length by omega);rw[this];simp[ct,aV,this]
         generalize jb PL x=px at hpx eh iT;generalize jb PL a=pa at ou eh iT;generalize ct o x=ox at xD eh iT;generalize ct o a=oa at fX eh iT;refine fK TI ?_;refine aN ?_;refine bE bP (aD rfl (fun h=>fY ?_) fun h=>fY ?_)
         .have mj:pa<px:=by simpa using h
          rw[if_pos mj] at eh iT;obtain⟨y,rfl,vy,hy⟩:=iT;have kd:=fM (f:=I) xD;refine aQ ?_;refine aa (aJ (k,y,a) (bg eH eH) ⟨vy,va,oM,eh⟩ (Nat.lt_succ_self _))
         .have mj:¬ pa<px:=by simpa using h
          rw[if_neg mj] at eh iT;obtain⟨y,rfl,vy,hy⟩:=iT;have kd:=fM (f:=I) fX;refine aQ ?_;refine aa (aJ (k,x,y) (bg eH eH) ⟨vx,vy,oM,eh⟩ (Nat.lt_succ_self _))
        .have he:(x:Int)=a:=by simpa using h
         have hr:(l.take (i+1)).foldl (iL PL o) (-1)=x:=by
          rw[eh];cases k with
          |zero=>rfl
          |succ k=>rw[pF,if_pos he]
         refine ab ?_;refine aa (aJ (i+1) (bg ⟨rfl,rfl,rfl,rfl,rfl,rfl,?_,rfl,rfl,rfl,rfl,rfl,rfl,trivial⟩ eH) oG oG);rw[hr];rfl
     .have ba:¬ i<l.length:=by simpa using h
      have:=j9 oG;subst this;exact aq eH
    rintro s z1;refine⟨_,z1,ai ?_⟩
    have PO:o[C]? =some (ct o C):=by
     have:=aK (show C<o.length by omega);rw[this];simp[ct,aV,this]
    have kd:=fM (f:=I) PO;generalize ct o C=v at PO kd J;generalize jZ PL o l=q at J;refine bC ?_;refine aa (aD rfl (fun h=>fY ?_) fun h=>cI ?_)
    .have ap:¬ v=q:=by simpa using h
     rw[if_neg ap] at J;refine bC ?_;refine aa ?_;refine ab ?_;refine aa (aJ (j+1) (bg ⟨rfl,rfl,rfl,rfl,?_,rfl,rfl,rfl,trivial⟩ ⟨?_,trivial⟩) oG oG)
     .rw[J];rfl
     .rw[J,List.map_set];rfl
    .have ap:v=q:=by simpa using h
     rw[if_pos ap] at J;refine ab ?_;refine aa (aJ (j+1) (bg ⟨rfl,rfl,rfl,rfl,?_,rfl,rfl,rfl,trivial⟩ ⟨?_,trivial⟩) oG oG)
     .rw[J];rfl
     .rw[J];rfl
   .have ba:¬ j<T.length:=by simpa using h
    have hl:=iJ oG;rw[List.tail_cons, <- hl] at dz HS;dsimp only at dz HS;have hL:True->o.length=n:=fun _=>HT;clear PN iT cO iJ Az Ri pE;cases fl with
    |true=>exact aJ (k - 1,o,true) (bg eH eH) ⟨HT,fun _=>dz rfl,fun h=>by cases h⟩ (by dsimp only;rw[h0];simp;omega)
    |false=>exact aJ (0,o,false) (bg eH eH) ⟨HT,fun h=>Bool.noConfusion h,fun _=>(HS rfl).1⟩ (by dsimp only;rw[h0];simp)
  .have:=zA h;subst this;exact⟨bg eH eH,PK⟩
 rintro s ⟨HO,Rk⟩;refine⟨_,HO,ax ?_⟩;have u9:F[0]? =some (F[0]'oG):=aK oG;refine av ?_;refine aa (aR (oX (i:=2) (e:=3) (cs:=(F.set 0 (-1)).map I) (l:=[(7,ao (F.set 0 (-1)))]) (ml:=[]) ?_ ⟨?_,trivial⟩ trivial) (ai ?_))
 .rw[List.map_set];rfl
 .exact(nA (by rw[c3];simp[Rk])).trans (by rw[ao,List.length_set,Rk])
 refine ab ?_;refine aa (az rfl rfl)
end Go.Proofs.Tryz.K
namespace Go.Argus
def a7(f:aC):Nat->List Int:=ah (aO f)
def cY(f:aC):Nat->List Int:=ah (bu f.blocks)
theorem KJ{f:aC}{c:Nat}(h:c<f.blocks.length):cY f c=bw f.blocks f.blocks.length c:=by
 unfold cY ah;rw[aV,DA rfl h];rfl
theorem J'{f:aC}{c:Nat}(h:f.blocks.length<=c):cY f c=[]:=by
 unfold cY ah;rw[aV,List.getElem?_eq_none (by simp[bu];omega)];rfl
theorem qH{f:aC}(h:lT f):oi (a7 f) (cY f) f.blocks.length:=by
 refine⟨h.pos,Go.Proofs.Tryz.K.beh_in h,fun c a=>?_⟩;rcases Nat.lt_or_ge c f.blocks.length with g|g
 .rw[KJ g,Dy];constructor
  .rintro⟨b,rfl,hb,x,hx,t,ht,e⟩;refine⟨oG,hb,?_⟩;show(c:Int)∈ah (aO f) _;rw[b9,rL hx];have:=Go.Proofs.Tryz.K.beh_in h b t (by rw[rL hx];exact ht);have e2:(c:Int)=t:=by omega
   rw[e2];exact ht
  .rintro⟨h0,hl,hm⟩;obtain⟨b,rfl⟩:=dd h0;rw[b9] at hl hm;have hx:=aK hl;have hm:(c:Int)∈ah (aO f) b:=hm;rw[rL hx] at hm;exact⟨b,rfl,hl,_,hx,c,hm,oG⟩
 .rw[J' g];refine⟨fun x=>by simp at x,fun⟨_,_,hm⟩=>?_⟩;have:=(Go.Proofs.Tryz.K.beh_in h _ _ hm).2;omega
theorem D6{f:aC}(h:lT f)(b:Nat):(cY f b).length<=100000:=by
 rcases Nat.lt_or_ge b f.blocks.length with g|g
 .rw[KJ g];have:=Dz (bs:=f.blocks) (fun b hb=>by have:=(h.ends b hb).wh;omega) f.blocks.length b;have:=h.oD;omega
 .rw[J' g];simp
def EE(l:List Int):Prop:=∀ (i j:Nat) x y,i<=j->l[i]? =some x->l[j]? =some y->x<=y
end Go.Argus
namespace Go.Proofs.Tryz.K
set_option maxRecDepth 10000
theorem O2{f:aC}(h:lT f){c:D}(hc:Tr c)(dX:c.one=true):PCall prog 60 [.pt (aM f (aO f) (bu f.blocks) c)] (ao (dQ (a7 f) (cY f) f.blocks.length)):=
 oO hc dX (by simp[aO]) (by simp[bu]) rfl h.oD (qH h) (Ev h) (D6 h)
end Go.Proofs.Tryz.K
end
namespace Go.Argus
open Go Go.Abs
def ab1(l:List Int)(j k:Nat):Prop:=(∀ p q,p<q->q<=k->p≠j->q≠j->l.getD p 0<=l.getD q 0)/\∀ q,j<q->q<=k->l.getD j 0<=l.getD q 0
def PZ(l:List Int)(k:Nat):Prop:=∀ p q,p<=q->q<=k->l.getD p 0<=l.getD q 0
theorem Jy{l:List Int}{j:Nat}(h:j+1<l.length)(i:Nat):(swapAt l j).getD i 0=if i=j then l.getD (j+1) 0 else if i=j+1 then l.getD j 0 else l.getD i 0:=by
 unfold swapAt;simp only[aV,List.getElem?_set,List.length_set];by_cases e:j=i
 .subst e;rw[if_pos rfl,if_pos rfl,if_pos oG];rfl
 .rw[if_neg e,if_neg (show ¬ i=j from fun h=>e h.symm)];by_cases e2:j+1=i
  .subst e2;rw[if_pos rfl,if_pos rfl,if_pos h];rfl
  .rw[if_neg e2,if_neg (show ¬ i=j+1 from fun h=>e2 h.symm)]
theorem Ll{k:Nat}:∀ {j:Nat} {l:List Int},j<=k->k<l.length->ab1 l j k->PZ (lz l j) k
 |0,l,_,_,h=>fun p q C hq=>by
  rw[lz];rcases Nat.lt_or_ge p q with g|g
  .by_cases hp:p=0
   .subst hp;exact h.2 q g hq
   .exact h.1 p q g hq hp oG
  .have:p=q:=by omega
   subst this;exact Int.le_refl _
 |j+1,l,hj,hk,h=>by
  rw[lz];split
  .rename_i af;have hs:=Jy (l:=l) (j:=j) oG;refine Ll oG (by simpa using hk) ⟨fun p q C hq hp M=>?_,fun q hq J=>?_⟩
   .rw[hs,hs,if_neg hp,if_neg M];by_cases e1:p=j+1
    .rw[if_pos e1,if_neg oG];exact h.1 j q oG hq oG oG
    .rw[if_neg e1];by_cases e2:q=j+1
     .rw[if_pos e2];exact h.1 p j oG oG e1 oG
     .rw[if_neg e2];exact h.1 p q C hq e1 e2
   .rw[hs,hs,if_pos rfl,if_neg oG];by_cases e2:q=j+1
    .rw[if_pos e2];omega
    .rw[if_neg e2];exact h.2 q oG J
  .rename_i X;intro p q C hq;rcases Nat.lt_or_ge p q with g|g
   .by_cases e1:p=j+1
    .subst e1;exact h.2 q g hq
    .by_cases e2:q=j+1
     .subst e2;by_cases e3:p=j
      .subst e3;omega
      .have:=h.1 p j oG oG oG oG;omega
     .exact h.1 p q g hq e1 e2
   .have:p=q:=by omega
    subst this;exact Int.le_refl _
theorem Kf{i:Nat}:∀ {j:Nat} {l:List Int},j<i->j<l.length->(lz l j).getD i 0=l.getD i 0
 |0,l,_,_=>rfl
 |j+1,l,h,hl=>by
  rw[lz];split
  .rw[Kf oG oP,Jy oG,if_neg oG,if_neg oG]
  .rfl
theorem Kg{l:List Int}:∀ k,k<l.length->PZ (jY l k) k/\∀ i,k<i->(jY l k).getD i 0=l.getD i 0
 |0,_=>⟨fun p q C hq=>by
  have:p=q:=by omega
  subst this;exact Int.le_refl _,fun _ _=>rfl⟩
 |k+1,hk=>by
  obtain⟨h1,h2⟩:=Kg (l:=l) k oG;rw[jY];refine⟨Ll (aU _) (by simpa using hk) ⟨fun p q C hq hp J=>h1 p q oG oG,fun q hq J=>by omega⟩,fun i hi=>?_⟩;rw[Kf hi oP];exact h2 i oG
theorem R0(l:List Int):EE (dO l):=fun i j x y C hx hy=>by
 obtain⟨hj,J⟩:=bj.1 hy;have hl:(dO l).length=l.length:=DF l;have h:=(Kg (l:=l) (l.length - 1) oG).1 i j C oG;have e:jY l (l.length - 1)=dO l:=rfl;rw[e,aV,aV,hx,hy] at h;exact h
theorem Ms{d:List Int}(hs:EE d):∀ t,t<=d.length->(dH d t).Pairwise (·<·)/\(0<t->∀ x∈dH d t,x<=d.getD (t - 1) 0)
 |0,_=>⟨by simp[dH],fun h=>absurd h (Nat.lt_irrefl 0)⟩
 |t+1,ht=>by
  obtain⟨h1,h2⟩:=Ms hs t oG
  have hg:∀ i,i<d.length->d[i]? =some (d.getD i 0):=fun i hi=>by
   have:=aK hi;rw[aV,this];rfl
  have C:∀ x∈dH d t,x<=d.getD t 0:=fun x hx=>by
   have h0:0<t:=by
    cases t with
    |zero=>simp[dH] at hx
    |succ t=>omega
   have a:=h2 h0 x hx;have b:=hs (t - 1) t _ _ oG (hg _ oG) (hg _ oG);omega
  rw[dH];split
  .rw[List.append_nil];exact⟨h1,fun _ x hx=>by rw[Nat.add_sub_cancel];exact C x hx⟩
  .rename_i J;refine⟨?_,fun _ x hx=>?_⟩
   .rw[List.pairwise_append];refine⟨h1,oS,fun x hx y hy=>?_⟩;rw[List.mem_singleton] at hy;subst hy
    have h0:0<t:=by
     cases t with
     |zero=>simp[dH] at hx
     |succ t=>omega
    have a:=h2 h0 x hx;have b:=hs (t - 1) t _ _ oG (hg _ oG) (hg _ oG);have c:d.getD t 0≠d.getD (t - 1) 0:=fun e=>J ⟨oG,e⟩;omega
   .rw[Nat.add_sub_cancel];rw[List.mem_append,List.mem_singleton] at hx;rcases hx with hx|hx
    .exact C x hx
    .rw[hx];exact Int.le_refl _
theorem Sd{d:List Int}(hs:EE d):(io d).Pairwise (·<·):=(Ms hs _ (aU _)).1
theorem Tl(x:End):(Go.Proofs.Tryz.K.nextR x).Pairwise (·<·):=Sd (R0 _)
end Go.Argus
section
open Go Go.Abs Go.Proofs Go.Argus
namespace Go.Argus
def VL(p:Int×List Int):List D:=[I p.1,ao p.2]
@[simp] theorem aey (p : Int × List Int) : (VL p).length = 2 := rfl
def nR(f:aC):D:=if bW f=0 then .tup [dk (b8 (a7 f) f.blocks.length (-1)),I 0] else .tup [.z,I (bW f)]
theorem Ka(f:aC):Tr (nR f):=by
 unfold nR;split
 .exact .tup (.cons (.sl (.map fun _=>.s _)) (.cons (.s _) .nil))
 .exact .tup (.cons .z (.cons (.s _) .nil))
end Go.Argus
end
namespace Go.Argus
open Go Go.Abs
open Go.Proofs.Tryz.K (nextR)
structure C'(w:List Int):Prop where
 len:w.length=20
 all:gv w
theorem C'.lV{w:List Int}(h:C' w)(n:Int):C' (lV w n):=⟨by simp[h.len],IW h.all⟩
theorem gv.eb{w v:List Int}(h:gv w)(hv:gv v):∀ k,gv (eb w v k)
 |0=>h
 |k+1=>(gv.eb h hv k).set (Jf ((gv.eb h hv k).get _)).1
theorem ix.tC{n:Nat}{s:CS}(h:ix n s){b:Nat}(hb:b<n):C' (s.ws.getD b []):=by
 have hl:b<s.ws.length:=by rw[h.lw];exact hb
 have hx:s.ws[b]? =some s.ws[b]:=aK hl;rw[getD_some hx];have hm:s.ws[b]∈s.ws:=cZ _;exact⟨h.iZ _ hm,h.rg _ hm⟩
section
variable{bs:List ca}{args:Nat}(hb:∀ b∈bs,sv bs.length b)
include hb
end
theorem Av.ne{E:Nat->Nat->Prop}{w x:Nat}(h:Av E w x):x≠w:=by
 cases h with
 |zero h=>exact h
 |step _ _ h=>exact h
end Go.Argus
section
open Go Go.Abs Go.Proofs Go.Argus
namespace Go.Proofs.Tryz.K
set_option maxRecDepth 10000
theorem VM{f:aC}(C:bW f≠0):PCall prog 31 [.agg (aX f)] (nR f):=by
 have J:=Bk C;refine bd PS (.cons (.agg (jL f)) .nil) (Ka f) ?_;rw[nR,if_neg C];generalize bW f=e at J C;have fR:(e !=0)=true:=by simpa using C
 rw[PT];refine ax ?_;refine av ?_;refine aa (aR (cE [(0,aX f,26)] eH (l:=[(1,.pt (aX f))]) eH) (ai ?_));refine SS ?_;refine cl J ?_;refine aQ ?_;refine aa (aB (ai ?_));refine ab ?_;refine aa (fA ?_);refine aB (ai ?_);refine av ?_;exact aa (c8 (iH rfl rfl rfl))
theorem WH{f:aC}(J:bW f=0):PCall prog 31 [.agg (aX f)] (nR f):=by
 have C:=we J;refine bd PS (.cons (.agg (jL f)) .nil) (Ka f) ?_;rw[nR,if_pos J];have M:nP f=aM f (aO f) (bu f.blocks) (dk (b8 (a7 f) f.blocks.length (-1))):=rfl;rw[M] at C;generalize b8 (a7 f) f.blocks.length (-1)=R at C ⊢;rw[PT];refine ax ?_;refine av ?_;refine aa (aR (cE [(0,aX f,26)] eH (l:=[(1,.pt (aX f))]) eH) (ai ?_));refine SS ?_;refine cl C ?_;refine aQ ?_;refine aa (aB (ai ?_));refine ab ?_;refine aa (ll (cu (ai ?_)));refine bC ?_;exact aa (iH rfl rfl rfl)
theorem rz{f:aC}:PCall prog 31 [.agg (aX f)] (nR f):=by
 by_cases h:bW f=0
 .exact WH h
 .exact VM h
end Go.Proofs.Tryz.K
end
namespace Go.Proofs.Tryz.K
open Go.Abs
theorem abF:y7=(S1 (G1 y7 0) (S1 (G1 y7 1) .ret)):=kr
theorem UO:drawInfo (Z lU 6)=some []:=kr
theorem abE:lU=(S1 (G1 lU 0) (S1 (S1 (G1 lU 1) (C1 10 (S1 (G1 lU 2) .ret) K1)) (S1 (S1 (G1 lU 3) (B1 0 (.loop (S1 (S1 (G1 lU 4) (C1 14 K1 (X1 0))) (S1 (B1 1 (S1 (G2 lU 6) (C1 25 (S1 (G1 lU 7) .ret) K1))) (G1 lU 5)))))) (S1 (G1 lU 8) .ret)))):=kr
end Go.Proofs.Tryz.K
section
open Go Go.Abs Go.Proofs Go.Argus
namespace Go.Argus
def w9(f:aC)(h:D):List D:=[S f.name,B f.iter,I f.args,U8 f.result,ik f.aL,ik f.cv,mE f.signals,dM f.blocks,h]
@[simp] theorem aeN (f : aC) (h : D) : (w9 f h).length = 9 := rfl
theorem YF:Tr .z:=fun F β w v h=>by
 obtain⟨x,rfl⟩:=h.z_inv;exact .z x
end Go.Argus
namespace Go.Proofs.Tryz.K
set_option maxRecDepth 10000
theorem qm{f:aC}{hd:D}(h:hd.one=true):(w9 f hd).all D.one=true:=by
 simp only[w9,List.all_cons,List.all_nil,h,Bool.and_true];rfl
section
variable{f:aC}{hd:D}(ht:Tr hd)(ka:hd.one=true)
include ht ka
end
section
variable{f:aC}{hd:D}(ht:Tr hd)(ka:hd.one=true)
include ht ka
end
end Go.Proofs.Tryz.K
namespace Go.Argus
open Go.Proofs.Tryz.K (nextR)
def P':List Int->Int->List Int
 |[],n=>[n]
 |x::l,n=>if x<n then x::P' l n else if x=n then x::l else n::x::l
def Zo(l:List Int):List Int:=l.foldl P' []
def Zp(x:End):List Int:=Zo (gg x)
end Go.Argus
end
namespace Go.Argus
open Go Go.Abs
open Go.Proofs.Tryz.K (nextR)
structure Cert where
 any:Bool
 is:List Bool
section
variable{R n:Nat}(hR:R<=1200)(hn:n<=R+60)
include hR hn
end
structure ab2(R n:Nat)(x:bN):Prop where
 w:fZ x= -1\/∃ i:Nat,i<R/\fZ x=i
 s:x.op=18->∃ i:Nat,R+i<n/\x.n=i
end Go.Argus
section
open Go Go.Abs Go.Proofs Go.Argus
namespace Go.Argus
def YG(c:Cert):List D:=[B c.any,dk c.is]
@[simp] theorem aeI (c : Cert) : (YG c).length = 2 := rfl
def YK(p:Bool×D):List D:=[B p.1,p.2]
end Go.Argus
end
namespace Go.Argus
open Go Go.Abs
open Go.Proofs.Tryz.K (nextR)
structure ab3(R n:Nat)(x:bN):Prop where
 r:∀ r∈cX x,∃ i:Nat,i<R/\r=i
 s:x.op=17->∃ i:Nat,R+i<n/\x.n=i
 p:x.op=19->∀ r∈x.args,∃ i:Nat,i<R/\r=i
structure Oe(f:aC):Prop where
 ok:lT f
 sl:f.cv.length<=60
 ins:∀ b∈f.blocks,∀ x∈b.ins,ab2 f.aL.length (f.aL.length+f.cv.length) x/\ab3 f.aL.length (f.aL.length+f.cv.length) x
 Q3:∀ (k:Nat) b,f.blocks[k]? =some b->∀ (j:Nat) x,b.ins[j]? =some x->fC x=true->x.args.length=(bw f.blocks f.blocks.length k).length/\(b.ins.take (j+1)).all fC=true
 wr:∀ b∈f.blocks,fL b.fin= -1\/∃ i:Nat,i<f.aL.length/\fL b.fin=i
 rd:∀ b∈f.blocks,∀ r∈cM b.fin,∃ i:Nat,i<f.aL.length/\r=i
 ed:∀ b∈f.blocks,gg b.fin=bZ b.fin/\Zp b.fin=nextR b.fin
 ar:∃ a:Nat,f.args=a/\a<=f.aL.length
end Go.Argus
section
open Go Go.Abs Go.Proofs Go.Argus
namespace Go.Proofs.Tryz.K
set_option maxRecDepth 10000
section
variable{f:aC}{hd:D}(ht:Tr hd)(ka:hd.one=true)
include ht ka
end
section
variable{f:aC}{hd:D}(ht:Tr hd)(ka:hd.one=true)
include ht ka
end
end Go.Proofs.Tryz.K
namespace Go.Argus
open Go.Proofs.Tryz.K (nextR)
@[simp] theorem IZ (p : Bool × D) : (YK p).length = 2 := rfl
end Go.Argus
end
namespace Go.Argus
open Go Go.Abs
section
variable{beh:Nat->List Int}{w:Int}{S:Nat->Prop}(hS:∀ x,S x->∀ c∈beh x,c≠w->S c.toNat)
include hS
theorem Lm:∀ (k:Nat) (s:List Bool×List Int) (b:Nat),S b->(∀ i,s.1.getD i false=true->S i)->∀ i,(cW beh w k s b).1.getD i false=true->S i
 |0,s,b,_,h,i,hi=>h i hi
 |k+1,s,b,hb,h,i,hi=>by
  rw[pV] at hi
  have h1:∀ i,(s.1.set b true).getD i false=true->S i:=fun i hi=>by
   rw[aV,List.getElem?_set] at hi;by_cases e:b=i
   .subst e;exact hb
   .rw[if_neg e, <- List.getD_eq_getElem?_getD] at hi;exact h i hi
  have key:∀ l:List Int,(∀ c∈l,c∈beh b)->∀ t:List Bool×List Int,(∀ i,t.1.getD i false=true->S i)->∀ i,(cJ beh w k t l).1.getD i false=true->S i:=fun l=>by
   induction l with
   |nil=>exact fun _ t ht i hi=>ht i hi
   |cons c l ih=>
    intro hl t ht i hi;unfold cJ at hi;rw[List.foldl_cons] at hi;refine ih (fun c hc=>hl c (by simp[hc])) _ ?_ i hi;split
    .rename_i hc;exact Lm k t c.toNat (hS b hb c (hl c oS) hc.2) ht
    .exact ht
  exact key (beh b) (fun _ h=>h) _ h1 i hi
theorem Jz{n:Nat}(h0:S 0):∀ i,(b8 beh n w).getD i false=true->S i:=fun i hi=>by
 have C:∀ i,(List.replicate n false).getD i false=false:=fun i=>by
  rw[aV,List.getElem?_replicate];split<;>rfl
 unfold b8 at hi;split at hi
 .rw[C] at hi;cases hi
 .exact Lm hS n _ 0 h0 (fun i hi=>by rw[C] at hi;cases hi) i hi
end
theorem SV{beh:Nat->List Int}{n:Nat}{w:Int}(hb:∀ b,∀ c∈beh b,0<=c/\c.toNat<n)(hn:0<n)(C:w≠0):(b8 beh n w).getD 0 false=true/\∀ x,(b8 beh n w).getD x false=true->∀ c∈beh x,c≠w->(b8 beh n w).getD c.toNat false=true:=by
 obtain⟨_,h2,h3⟩:=zM hb hn w;unfold b8;rw[if_neg C];exact⟨h2,h3⟩
section
variable{beh ahd:Nat->List Int}{n:Nat}(h:oi beh ahd n)
include h
end
section
variable{beh ahd:Nat->List Int}{n:Nat}(h:oi beh ahd n)
include h
end
end Go.Argus
section
open Go Go.Abs Go.Proofs Go.Argus
namespace Go.Argus
theorem tI{f:aC}(h:bW f=0):k6 f=true:=by
 unfold bW at h;split at h
 .assumption
 .cases h
end Go.Argus
namespace Go.Proofs.Tryz.K
set_option maxRecDepth 10000
theorem HZ{a b:List Int}:PCall prog 64 [ao a,ao b] (B (decide (a=b))):=by
 have J:∀ x∈[ao a,ao b],Tr x:=.cons (cH _) (.cons (cH _) .nil);refine mA GB.he J fun M=>?_;have hlen:=(M (ao a) oS).sl.1;unfold maxLen at hlen;refine bd GB J (Tr.s _) ?_;rw[abE];refine ws ?_;refine SS ?_;refine aa (aB (ai ?_));refine aQ ?_;refine aa (c6 rfl (fun h=>?_) fun h=>cu (aB (ax ?_)))
 .refine aB (ai ?_);refine SS ?_;refine aa (c8 (az (d:=B false) rfl ?_));have C:a≠b:=fun e=>by subst e;simp at h
  rw[decide_eq_false C]
 have jG:a.length=b.length:=by
  have:¬ ((a.length:Int)≠(b.length:Int)):=by simpa using h
  omega
 clear h;refine SS ?_
 refine aa (cN (fun s=>Ghost prog s ⟨aw [],fun _=>none,0⟩/\a=b) (lk (α:=Nat) (fun k=>⟨aw [(0,ao a),(1,ao b),(5,I k)],fun _=>none,0⟩)
  (fun k=>k<=a.length/\∀ j,j<k->a[j]? =b[j]?) (fun k=>a.length - k) 0 (aq eH) ⟨oG,fun j hj=>by omega⟩ ?_) ?_)
 .rintro k ⟨hk,hinv⟩;refine aI ?_;refine aa ⟨_,rfl,fun h=>?_,fun h=>?_⟩
  .have af:k<a.length:=by simpa using h
   have hx:a[k]? =some a[k]:=aK af;have hy:b[k]? =some b[k]:=aK oG;generalize a[k]=x at hx;generalize b[k]=y at hy;refine fK UO ?_;refine aN ?_;refine bE bP (aD rfl (fun hp=>?_) fun hp=>?_)
   .refine ws ?_;refine SS ?_;refine aa (bq (cz (bl (az (d:=B false) rfl ?_))))
    have C:a≠b:=fun e=>by
     subst e;rw[hx] at hy;cases hy;simp at hp
    rw[decide_eq_false C]
   .refine cI ?_;refine av ?_;refine aa (aJ (k+1) (aq eH) ⟨oG,fun j hj=>?_⟩ oG);by_cases e:j=k
    .subst e;rw[hx,hy];congr 1;simpa using hp
    .exact hinv j oG
  .have ba:¬ k<a.length:=by simpa using h
   refine⟨eN (l:=[]) trivial,List.ext_getElem? fun j=>?_⟩;by_cases hj:j<k
   .exact hinv j hj
   .rw[List.getElem?_eq_none oG,List.getElem?_eq_none oG]
 .rintro s ⟨hg,X⟩;refine⟨_,hg,ai ?_⟩;refine SS ?_;refine aa (az (d:=B true) rfl ?_);rw[decide_eq_true X]
theorem Ak{a b:List Int}:PCall prog 22 [ao a,ao b] (B (decide (a=b))):=by
 have HZ:=HZ (a:=a) (b:=b);refine bd PV (.cons (cH _) (.cons (cH _) .nil)) (Tr.s _) ?_;rw[abF];refine ws ?_;refine SS ?_;refine er ?_;refine ab ?_;refine cl HZ ?_;refine SS ?_;exact aa (az rfl rfl)
end Go.Proofs.Tryz.K
end
namespace Go.Argus
open Go Go.Abs
open Go.Proofs.Tryz.K (nextR lg_ok beh_in ord_in)
section
variable{f:aC}(hF:Oe f)
include hF
end
section
variable{f:aC}(hF:Oe f)
include hF
end
end Go.Argus
section
open Go Go.Abs Go.Proofs Go.Argus
namespace Go.Abs
theorem fq.nil{m:Mem}{nx j:Nat}{e et:TypeId}{ρ:Nat->Nat}{L:Nat->List D}(hm:m j=some (.cells [] e))(hj:j<nx):fq m nx j 0 e et ρ L:=
 ⟨hm,hj,fun _ h=>absurd h (Nat.not_lt_zero _),fun _ h=>absurd h (Nat.not_lt_zero _),fun _ h=>absurd h (Nat.not_lt_zero _),fun _ _ h=>absurd h (Nat.not_lt_zero _)⟩
theorem fq.put{m:Mem}{nx j n i:Nat}{e et:TypeId}{ρ:Nat->Nat}{L:Nat->List D}{l:List D}(h:fq m nx j n e et ρ L)(hi:i<n)(hl:l.length=(L i).length)(M:L i≠[]):fq (up m (ρ i) (some (.cells l et))) nx j n e et ρ (up L i l):=by
 have qY:l≠[]:=fun e=>by
  subst e;exact M (List.eq_nil_of_length_eq_zero hl.symm)
 have J:∀ k,up L i l k≠[]->L k≠[]:=fun k hk=>by
  by_cases e:k=i
  .subst e;exact M
  .rwa[up_ne _ _ e] at hk
 refine⟨?_,h.rC,fun k hk C=>?_,fun k hk C=>h.lt k hk (J k C),fun k hk C=>h.ne k hk (J k C),fun a b ha hb vd ke=>h.inj a b ha hb (J a vd) (J b ke)⟩
 .rw[up_ne _ _ (fun e=>h.ne i hi M e.symm),h.row];congr 2;refine List.map_congr_left fun k hk=>?_;by_cases e:k=i
  .subst e;rw[up_same,nZ qY,nZ M,hl]
  .rw[up_ne _ _ e]
 .by_cases e:k=i
  .subst e;rw[up_same,up_same]
  .rw[up_ne _ _ e,up_ne _ _ fun X=>e (h.inj k i hk hi (J k C) M X)];exact h.sP k hk (J k C)
section
variable{m m':Mem}{nx nx' j n w:Nat}{e et:TypeId}{ρ:Nat->Nat}{L:Nat->List D}
end
section
variable{P:Program}
end
section
variable{m m':Mem}{nx nx' ji jo n w:Nat}{ρi ρo:Nat->Nat}{Li Lo:Nat->List D}
end
section
variable{P:Program}
end
end Go.Abs
namespace Go.Argus
def ss(f:aC):D:=if bW f=0 then .tup [ao (dQ (a7 f) (cY f) f.blocks.length),I 0] else .tup [.z,I (bW f)]
theorem VN(f:aC):Tr (ss f):=by
 unfold ss;split
 .exact .tup (.cons (cH _) (.cons (.s _) .nil))
 .exact .tup (.cons YF (.cons (.s _) .nil))
end Go.Argus
namespace Go.Proofs.Tryz.K
set_option maxRecDepth 10000
theorem ry{f:aC}:PCall prog 36 [.agg (aX f)] (ss f):=by
 refine bd PW (.cons (.agg (jL f)) .nil) (VN f) ?_;rw[abG];unfold ss;refine ax ?_;refine av ?_;refine aa (aR (cE [(0,aX f,26)] eH (l:=[(1,.pt (aX f))]) eH) (ai ?_));by_cases C:bW f=0
 .rw[if_pos C];have J:=we C;have M:=mN (tI C);have X:nP f=aM f (aO f) (bu f.blocks) (dk (b8 (a7 f) f.blocks.length (-1))):=rfl;have oO:=O2 M (c:=dk (b8 (a7 f) f.blocks.length (-1))) (.sl (.map fun _=>.s _)) rfl;rw[X] at J;generalize dQ (a7 f) (cY f) f.blocks.length=par at oO ⊢;generalize dk (b8 (a7 f) f.blocks.length (-1))=cnt at J oO;refine SS ?_;refine cl J ?_;refine aQ ?_;refine aa (aB (ai ?_));refine ab ?_;refine aa (ll (cu (ai ?_)));refine SS ?_;refine cl oO ?_;refine ab ?_;exact aa (iH rfl rfl rfl)
 .rw[if_neg C];have J:=Bk C;generalize bW f=ce at C J ⊢;have fR:(ce !=0)=true:=by simp[C]
  refine SS ?_;refine cl J ?_;refine aQ ?_;refine aa (aB (ai ?_));refine ab ?_;refine aa (fA ?_);refine aB (ai ?_);refine av ?_;exact aa (c8 (iH rfl rfl rfl))
theorem O6{l:List Int}:PCall prog 22 [ao l,ao l] (B true):=by
 have:=Ak (a:=l) (b:=l)
 rwa[decide_eq_true rfl] at this
end Go.Proofs.Tryz.K
end
namespace Go.Argus
open Go Go.Abs
abbrev ag:=Int×Bool
section
variable(beh:Nat->List Int)(fr to:Int)
inductive iu:ag->ag->Prop
 |out {a c:Int}:c∈beh a.toNat->c≠fr->a≠to->iu (a,true) (c,false)
 |uY {b:Int}:b≠fr->b≠to->iu (b,false) (b,true)
inductive Rf(v:Int):Int->Prop
 |one {c:Int}:c∈beh fr.toNat->c≠fr->c≠v->Rf v c
 |step {x c:Int}:Rf v x->c∈beh x.toNat->c≠fr->c≠v->Rf v c
theorem Rf.ne{v x:Int}(h:Rf beh fr v x):x≠fr/\x≠v:=by
 cases h with
 |one _ a b=>exact⟨a,b⟩
 |step _ _ a b=>exact⟨a,b⟩
end
def hZ(U:List (ag×ag))(s:ag):Int:=(U.countP fun e=>e.1==s:Nat) - (U.countP fun e=>e.2==s:Nat)
structure eR(beh:Nat->List Int)(fr to:Int)(v:Int)(U:List (ag×ag)):Prop where
 nd:U.Nodup
 ed:∀ e∈U,iu beh fr to e.1 e.2
 src:hZ U (fr,true)=v
 mid:∀ s,s≠(fr,true)->s≠(to,false)->hZ U s=0
theorem AN{α:Type}{p:α->Bool}{l:List α}{a:α}(h:a∈l)(hp:p a=true):0<l.countP p:=List.countP_pos_iff.2 ⟨a,h,hp⟩
theorem E0{α:Type}{p:α->Bool}:∀ {l:List α},l.Nodup->l.countP p<=1->∀ a∈l,∀ b∈l,p a=true->p b=true->a=b
 |[],_,_,a,ha,_,_,_,_=>by simp at ha
 |x::l,hn,hc,a,ha,b,hb,ou,tx=>by
  rw[List.nodup_cons] at hn;rw[List.countP_cons] at hc;rcases List.mem_cons.1 ha with e|J
  .rcases List.mem_cons.1 hb with e2|C
   .rw[e,e2]
   .rw[e] at ou;rw[if_pos ou] at hc;have:=AN C tx;omega
  .rcases List.mem_cons.1 hb with e2|C
   .rw[e2] at tx;rw[if_pos tx] at hc;have:=AN J ou;omega
   .exact E0 hn.2 oG a J b C ou tx
theorem Mt{α:Type}[DecidableEq α]{p:α->Bool}{e:α}:∀ {l:List α},l.Nodup->(∀ a∈l,p a=true->a=e)->l.countP p<=1
 |[],_,_=>by simp
 |x::l,hn,h=>by
  rw[List.nodup_cons] at hn;rw[List.countP_cons];have ih:=Mt hn.2 fun a ha=>h a (by simp[ha]);by_cases hp:p x=true
  .have hx:=h x oS hp;have:l.countP p=0:=List.countP_eq_zero.2 fun a ha C=>hn.1 (by rw[hx, <- h a (by simp[ha]) C];exact ha);rw[if_pos hp,this];omega
  .rw[if_neg hp];omega
section
variable{beh:Nat->List Int}{fr to:Int}{v:Int}{U:List (ag×ag)}(h:eR beh fr to v U)
include h
theorem eR.WT{b:Int}:U.countP (fun e=>e.1==(b,false))<=1:=Mt (e:=((b,false),(b,true))) h.nd fun e he hp=>by
 have hp:e.1=(b,false):=by simpa using hp
 have:=h.ed e he;obtain⟨x,y⟩:=e;dsimp only at hp this;subst hp;cases this;rfl
theorem eR.pass{a b:Int}(he:((a,true),(b,false))∈U)(hb:b≠to):((b,false),(b,true))∈U/\∃ d,((b,true),(d,false))∈U:=by
 have oK:b≠fr:=by have:=h.ed _ he;cases this;assumption
 have X:=h.mid (b,false) oS (by simpa using hb);have p1:=AN (p:=fun e:ag×ag=>e.2==(b,false)) he oS;unfold hZ at X;have p2:0<U.countP fun e=>e.1==(b,false):=by omega
 obtain⟨⟨x,y⟩,J,hp⟩:=List.countP_pos_iff.1 p2;have hp:x=(b,false):=by simpa using hp
 subst hp;have C:=h.ed _ J;dsimp only at C;cases C;refine⟨J,?_⟩;have n2:=h.mid (b,true) (by simpa using oK) oS;have p3:=AN (p:=fun e:ag×ag=>e.2==(b,true)) J oS;unfold hZ at n2;have p4:0<U.countP fun e=>e.1==(b,true):=by omega
 obtain⟨⟨x,y⟩,M,hp⟩:=List.countP_pos_iff.1 p4;have hp:x=(b,true):=by simpa using hp
 subst hp;have C:=h.ed _ M;dsimp only at C;cases C;exact⟨_,M⟩
theorem eR.ab4{a a' b:Int}(hb:b≠to)(he:((a,true),(b,false))∈U)(C:((a',true),(b,false))∈U):a=a':=by
 have J:=h.mid (b,false) oS (by simpa using hb);have:=h.WT (b:=b);unfold hZ at J;have:=E0 (p:=fun e:ag×ag=>e.2==(b,false)) h.nd oG _ he _ C oS oS;simpa using this
omit h in
theorem Se{S:List ag}(U:List (ag×ag)):U.countP (fun e=>decide (e.1∈S))=U.countP (fun e=>decide (e.1∈S)&&decide (e.2∈S))+U.countP (fun e=>decide (e.1∈S)&& !decide (e.2∈S)):=by
 induction U with
 |nil=>rfl
 |cons e U ih=>
  simp only[List.countP_cons,ih];by_cases h1:e.1∈S<;>by_cases h2:e.2∈S<;>simp[h1,h2]<;>omega
omit h in
theorem EI{S:List ag}(hS:S.Nodup)(g:ag×ag->ag):∀ U:List (ag×ag),(S.map fun s=>((U.countP fun e=>g e==s:Nat):Int)).sum=(U.countP (fun e=>decide (g e∈S)):Nat)
 |[]=>by
  simp only[List.countP_nil]
  induction S with
  |nil=>rfl
  |cons a S ih=>rw[List.nodup_cons] at hS;rw[List.map_cons,List.sum_cons,ih hS.2];rfl
 |e::U=>by
  have ih:=EI hS g U;simp only[List.countP_cons]
  have key:∀ (S:List ag),S.Nodup->∀ F:ag->Nat,(S.map fun s=>((F s+(if(g e==s)=true then 1 else 0):Nat):Int)).sum=(S.map fun s=>((F s:Nat):Int)).sum+(if g e∈S then 1 else 0):=fun S=>by
   induction S with
   |nil=>intro _ F;simp
   |cons a S C=>
    intro hn F;rw[List.nodup_cons] at hn;rw[List.map_cons,List.map_cons,List.sum_cons,List.sum_cons,C hn.2 F];by_cases ha:g e=a
    .subst ha;simp[hn.1];omega
    .have:¬ (g e==a)=true:=by simpa using ha
     by_cases hm:g e∈S<;>simp[ha,hm]<;>omega
  rw[key S hS,ih];by_cases hm:g e∈S<;>simp[hm]
omit h in
theorem VT{S:List ag}(hS:S.Nodup)(U:List (ag×ag)):(S.map (hZ U)).sum=(U.countP (fun e=>decide (e.1∈S)):Nat) - (U.countP (fun e=>decide (e.2∈S)):Nat):=by
 rw[<- EI hS (·.1), <- EI hS (·.2)];unfold hZ;clear hS
 induction S with
 |nil=>rfl
 |cons a S ih=>simp only[List.map_cons,List.sum_cons,ih];omega
theorem eR.VU{S:List ag}(hS:S.Nodup)(h1:(fr,true)∈S)(h2:(to,false)∉S):(S.map (hZ U)).sum=v:=by
 have zero:∀ S:List ag,(fr,true)∉S->(to,false)∉S->(S.map (hZ U)).sum=0:=fun S=>by
  induction S with
  |nil=>intro _ _;rfl
  |cons a S ih=>
   intro ha hb;simp only[List.mem_cons,not_or] at ha hb;rw[List.map_cons,List.sum_cons,ih ha.2 hb.2,h.mid a (fun e=>ha.1 e.symm) (fun e=>hb.1 e.symm)];rfl
 induction S with
 |nil=>simp at h1
 |cons a S ih=>
  rw[List.nodup_cons] at hS;simp only[List.mem_cons,not_or] at h1 h2;rw[List.map_cons,List.sum_cons];rcases h1 with h1|h1
  .subst h1;rw[h.src,zero S hS.1 h2.2];omega
  .rw[ih hS.2 h1 h2.2,h.mid a (fun e=>hS.1 (e▸h1)) (fun e=>h2.1 e.symm)];omega
theorem eR.Zq{S:List ag}(hv:v<=1)(hS:S.Nodup)(h1:(fr,true)∈S)(h2:(to,false)∉S)(X:∀ x∈S,∀ y,iu beh fr to x y->(x,y)∉U->y∈S)(c2:∀ x y,(x,y)∈U->y∈S->x∈S)
 {x y C J:ag} (hx:x∈S) (hy:y∉S) (he:iu beh fr to x y) (kP:C∈S) (s7:J∉S) (dq:iu beh fr to C J):(x,y)=(C,J):=by
 have M:=h.VU hS h1 h2;rw[VT hS,Se] at M
 have e2:U.countP (fun e=>decide (e.2∈S))=U.countP (fun e=>decide (e.1∈S)&&decide (e.2∈S)):=List.countP_congr fun e he=>by
  have:=c2 e.1 e.2 he;by_cases g:e.2∈S
  .simp[g,this g]
  .simp[g]
 rw[e2] at M;have hm:(x,y)∈U:=Classical.byContradiction fun g=>hy (X x hx y he g);have fE:(C,J)∈U:=Classical.byContradiction fun g=>s7 (X C kP J dq g);exact E0 (p:=fun e:ag×ag=>decide (e.1∈S)&& !decide (e.2∈S)) h.nd oG _ hm _ fE (by simp[hx,hy]) (by simp[kP,s7])
omit h in
theorem Kh{S:List ag}(h1:(fr,true)∈S)(h2:(to,false)∉S)(M:fr≠to){w:Int}(hR:Rf beh fr w to):
 ∃ x y,x∈S/\y∉S/\iu beh fr to x y/\(x.1=w->fr=w)/\y.1≠w:=by
 apply Classical.byContradiction;intro C;have C:∀ x y,x∈S->iu beh fr to x y->(x.1=w->fr=w)->y.1≠w->y∈S:=fun x y hx he h1 h2=>Classical.byContradiction fun g=>C ⟨x,y,hx,g,he,h1,h2⟩
 have key:∀ x,Rf beh fr w x->(x,false)∈S:=fun x hx=>by
  induction hx with
  |one hc hf J=>exact C (fr,true) _ h1 (.out hc hf M) (fun e=>e) J
  |@step x c hx hc hf J ih=>
   have hn:=hx.ne;have ht:x≠to:=fun e=>h2 (e▸ih);have h3:(x,true)∈S:=C (x,false) (x,true) ih (.uY hn.1 ht) (fun e=>absurd e hn.2) hn.2;exact C (x,true) (c,false) h3 (.out hc hf ht) (fun e=>absurd e hn.2) J
 exact h2 (key to hR)
theorem eR.Zr{S:List ag}(hv:v<=1)(lF:fr≠to)(ke:to∉beh fr.toNat)(hR:∀ w,w≠fr->w≠to->Rf beh fr w to)(qV:∃ w,w≠fr/\w≠to)(hS:S.Nodup)(h1:(fr,true)∈S)
 (c1:∀ x∈S,∀ y,iu beh fr to x y->(x,y)∉U->y∈S) (c2:∀ x y,(x,y)∈U->y∈S->x∈S):(to,false)∈S:=by
 apply Classical.byContradiction;intro h2;obtain⟨w0,J,C⟩:=qV;obtain⟨x,y,hx,hy,he,_,_⟩:=Kh h1 h2 lF (hR w0 J C)
 have key:∀ w,w≠fr->w≠to->(x.1=w\/y.1=w)->False:=fun w X vi Ay=>by
  obtain⟨x',y',kP,s7,dq,g1,g2⟩:=Kh h1 h2 lF (hR w X vi);have:=h.Zq hv hS h1 h2 c1 c2 hx hy he kP s7 dq;simp only[a8] at this;obtain⟨rfl,rfl⟩:=this;rcases Ay with g|g
  .exact X (g1 g).symm
  .exact g2 g
 cases he with
 |@out a c hc mg q9=>
  by_cases M:a=fr
  .subst M;exact key c mg (fun e=>ke (e▸hc)) (.inr rfl)
  .exact key a M q9 (.inl rfl)
 |@uY b oK fH=>exact key b oK fH (.inl rfl)
end
def oF(beh:Nat->List Int)(fr to:Int)(U:List (ag×ag))(x y:ag):Prop:=(iu beh fr to x y/\(x,y)∉U)\/(y,x)∈U
def bf(cm:List (ag×ag)):List ag:=cm.map (·.1)
structure SR(beh:Nat->List Int)(fr to:Int)(U:List (ag×ag))(cm:List (ag×ag))(op:List ag):Prop where
 hd:cm[0]? =some ((fr,true),(fr,true))
 nd:(bf cm).Nodup
 par:∀ i y x,0<i->cm[i]? =some (y,x)->oF beh fr to U x y/\∃ (j:Nat) (z:ag),j<i/\cm[j]? =some (x,z)
 CJ:∀ x∈op,x∈bf cm
 AF:∀ x∈bf cm,x∉op->x≠(to,false)/\∀ y,oF beh fr to U x y->y∈bf cm
section
variable{beh:Nat->List Int}{fr to:Int}{U cm:List (ag×ag)}{op:List ag}
theorem SR.init:SR beh fr to U [((fr,true),(fr,true))] [(fr,true)]:=by
 refine⟨rfl,by simp[bf],fun i y x hi h=>?_,fun x h=>by simpa[bf] using h,fun x h1 h2=>absurd h1 (by simpa[bf] using h2)⟩;obtain⟨i,rfl⟩:∃ j,i=j+1:=⟨i - 1,oG⟩
 simp at h
theorem SR.push(h:SR beh fr to U cm op){x y:ag}(hx:x∈bf cm)(hr:oF beh fr to U x y)(hy:y∉bf cm):SR beh fr to U (cm++[(y,x)]) (op++[y]):=by
 have hk:bf (cm++[(y,x)])=bf cm++[y]:=by simp[bf]
 have M:0<cm.length:=(bj.1 h.hd).1;refine⟨by rw[List.getElem?_append_left M];exact h.hd,?_,fun i y' x' hi hc=>?_,fun z C=>?_,fun z C J=>?_⟩
 .rw[hk,List.nodup_append];exact⟨h.nd,oS,fun a ha b hb e=>by simp at hb;subst hb;exact hy (e▸ha)⟩
 .rcases Nat.lt_trichotomy i cm.length with g|g|g
  .rw[List.getElem?_append_left g] at hc;obtain⟨h1,j,z,hj,h2⟩:=h.par i y' x' hi hc;exact⟨h1,j,z,hj,by rw[List.getElem?_append_left oG];exact h2⟩
  .subst g;rw[List.getElem?_append_right (aU _),Nat.sub_self] at hc;simp only[List.getElem?_cons_zero,ay,a8] at hc;obtain⟨rfl,rfl⟩:=hc;refine⟨hr,?_⟩;obtain⟨⟨a,z⟩,ha,e⟩:=List.mem_map.1 hx;obtain⟨j,hj⟩:=cU ha;dsimp only at e;subst e;have:=(bj.1 hj).1;exact⟨j,z,this,by rw[List.getElem?_append_left this];exact hj⟩
  .rw[List.getElem?_eq_none oP] at hc;cases hc
 .rw[hk,List.mem_append];rcases List.mem_append.1 C with g|g
  .exact .inl (h.CJ z g)
  .exact .inr g
 .rw[hk,List.mem_append] at C;rw[List.mem_append,not_or] at J;rcases C with C|C
  .obtain⟨h1,h2⟩:=h.AF z C J.1;exact⟨h1,fun w X=>by rw[hk,List.mem_append];exact .inl (h2 w X)⟩
  .exact absurd C J.2
theorem SR.pop{x:ag}(h:SR beh fr to U cm (x::op))(ht:x≠(to,false))(hr:∀ y,oF beh fr to U x y->y∈bf cm):SR beh fr to U cm op:=by
 refine⟨h.hd,h.nd,h.par,fun z C=>h.CJ z (by simp[C]),fun z C J=>?_⟩;by_cases e:z=x
 .subst e;exact⟨ht,hr⟩
 .exact h.AF z C (by simp[e,J])
theorem SR.full(h:SR beh fr to U cm []){v:Int}(C:eR beh fr to v U)(hv:v<=1)(M:fr≠to)(J:to∉beh fr.toNat)(hR:∀ w,w≠fr->w≠to->Rf beh fr w to)(X:∃ w,w≠fr/\w≠to):False:=by
 have h1:(fr,true)∈bf cm:=List.mem_map.2 ⟨_,bJ h.hd,rfl⟩;have:=C.Zr hv M J hR X h.nd h1 (fun x hx y he hn=>(h.AF x hx oS).2 y (.inl ⟨he,hn⟩)) fun x y he hy=>(h.AF y hy oS).2 x (.inr he);exact(h.AF _ this oS).1 rfl
def zn(s:ag):Int:=2*s.1+(if s.2=true then 1 else 0)
theorem TN{s t:ag}(h:zn s=zn t):s=t:=by
 obtain⟨a,x⟩:=s;obtain⟨b,y⟩:=t;cases x<;>cases y<;>simp[zn] at h ⊢<;>omega
end
def cP(U:List (ag×ag))(x y:ag):Bool:=decide ((x,y)∈U)
def iI(U:List (ag×ag))(x y:ag):List (ag×ag):=if cP U y x=true then U.erase (y,x) else U++[(x,y)]
theorem VW(U:List (ag×ag))(x y s:ag):hZ (U++[(x,y)]) s=hZ U s+(if x=s then 1 else 0) - (if y=s then 1 else 0):=by
 unfold hZ;rw[List.countP_append,List.countP_append];by_cases h1:x=s<;>by_cases h2:y=s<;>simp[h1,h2]<;>omega
theorem count_erase{p:ag×ag->Bool}{e:ag×ag}:∀ {U:List (ag×ag)},e∈U->U.countP p=(U.erase e).countP p+(if p e=true then 1 else 0)
 |[],h=>by simp at h
 |a::U,h=>by
  by_cases C:a=e
  .subst C;rw[List.erase_cons_head,List.countP_cons]
  .rw[List.erase_cons_tail (by simpa using C),List.countP_cons,List.countP_cons];have:=count_erase (p:=p) (U:=U) (by rcases List.mem_cons.1 h with g|g;exact absurd g.symm C;exact g);omega
theorem TO{U:List (ag×ag)}{x y s:ag}(h:(y,x)∈U):hZ (U.erase (y,x)) s=hZ U s+(if x=s then 1 else 0) - (if y=s then 1 else 0):=by
 unfold hZ;have h1:=count_erase (p:=fun e:ag×ag=>e.1==s) h;have h2:=count_erase (p:=fun e:ag×ag=>e.2==s) h;by_cases C:x=s<;>by_cases J:y=s<;>simp[C,J] at h1 h2 ⊢<;>omega
theorem UX(U:List (ag×ag))(x y s:ag):hZ (iI U x y) s=hZ U s+(if x=s then 1 else 0) - (if y=s then 1 else 0):=by
 unfold iI cP;split
 .rename_i h;exact TO (by simpa using h)
 .exact VW U x y s
theorem UY{U:List (ag×ag)}(C:U.Nodup){x y a b:ag}(h1:a≠y)(h2:b≠y):(a,b)∈iI U x y↔(a,b)∈U:=by
 unfold iI;split
 .rw[List.Nodup.mem_erase_iff C];simp[h1]
 .simp[h2]
structure TR(beh:Nat->List Int)(fr to:Int)(U cm:List (ag×ag))(i:Nat)(y:ag)(V:List (ag×ag)):Prop where
 at_:∃ x,cm[i]? =some (y,x)
 Da:∀ a b,a∈bf (cm.take (i+1))->b∈bf (cm.take (i+1))->((a,b)∈V↔(a,b)∈U)
 nd:V.Nodup
 ed:∀ e∈V,iu beh fr to e.1 e.2
 Ig:∀ s,hZ V s=hZ U s+(if y=s then 1 else 0) - (if(to,false)=s then 1 else 0)
section
variable{beh:Nat->List Int}{fr to:Int}{U cm:List (ag×ag)}{op:List ag}
theorem TR.init(h:SR beh fr to U cm op){v:Int}(C:eR beh fr to v U)(ht:(to,false)∈bf cm):∃ i,TR beh fr to U cm i (to,false) U:=by
 obtain⟨⟨a,x⟩,ha,e⟩:=List.mem_map.1 ht;obtain⟨i,hi⟩:=cU ha;dsimp only at e;subst e;exact⟨i,⟨x,hi⟩,fun _ _ _ _=>Iff.rfl,C.nd,C.ed,fun s=>by omega⟩
theorem DP{i j:Nat}{x z:ag}(hj:cm[j]? =some (x,z))(h:j<=i):x∈bf (cm.take (i+1)):=by
 refine List.mem_map.2 ⟨(x,z),bJ (i:=j) ?_,rfl⟩;rw[List.getElem?_take,if_pos oG];exact hj
theorem Eu(hn:(bf cm).Nodup){i j:Nat}{x z C:ag}(hi:cm[i]? =some (x,z))(hj:cm[j]? =some (x,C)):i=j:=by
 have h1:(bf cm)[i]? =some x:=by unfold bf;rw[List.getElem?_map,hi];rfl
 have h2:(bf cm)[j]? =some x:=by unfold bf;rw[List.getElem?_map,hj];rfl
 exact(List.getElem?_inj (bj.1 h1).1 hn).1 (h1.trans h2.symm)
theorem TR.step(h:SR beh fr to U cm op){i:Nat}{y x:ag}{V:List (ag×ag)}(C:TR beh fr to U cm i y V)(hi:cm[i]? =some (y,x))(ap:y≠(fr,true)):∃ j,j<i/\TR beh fr to U cm j x (iI V x y):=by
 have h0:0<i:=by
  rcases Nat.eq_zero_or_pos i with g|g
  .subst g;rw[h.hd] at hi;simp only[ay,a8] at hi;exact absurd hi.1.symm ap
  .exact g
 obtain⟨hr,j,z,hj,hc⟩:=h.par i y x h0 hi;have M:x∈bf (cm.take (i+1)):=DP hc oG;have ky:y∈bf (cm.take (i+1)):=DP hi (aU _)
 have X:∀ a,a∈bf (cm.take (j+1))->a≠y/\a∈bf (cm.take (i+1)):=fun a ha=>by
  obtain⟨⟨b,w⟩,hb,e⟩:=List.mem_map.1 ha;obtain⟨k,hk⟩:=cU hb;dsimp only at e;subst e;have ot:k<j+1:=by have:=(bj.1 hk).1;simp at this;omega
  rw[List.getElem?_take,if_pos ot] at hk;refine⟨fun e=>?_,DP hk oG⟩;subst e;have:=Eu h.nd hk hi;omega
 refine⟨j,hj,⟨z,hc⟩,fun a b ha hb=>?_,?_,?_,fun s=>?_⟩
 .obtain⟨a1,a2⟩:=X a ha;obtain⟨b1,b2⟩:=X b hb;rw[UY C.nd a1 b1];exact C.Da a b a2 b2
 .unfold iI cP;split
  .exact C.nd.erase _
  .rename_i J;have J:(y,x)∉V:=by simpa using J
   rw[List.nodup_append];refine⟨C.nd,oS,fun a ha b hb e=>?_⟩;simp only[List.mem_singleton] at hb;subst hb;subst e;rcases hr with⟨_,hr⟩|hr
   .exact hr ((C.Da x y M ky).1 ha)
   .exact J ((C.Da y x ky M).2 hr)
 .unfold iI cP;split
  .exact fun e he=>C.ed e (List.mem_of_mem_erase he)
  .rename_i J;have J:(y,x)∉V:=by simpa using J
   intro e he;rcases List.mem_append.1 he with g|g
   .exact C.ed e g
   .simp only[List.mem_singleton] at g;subst g;rcases hr with⟨hr,_⟩|hr
    .exact hr
    .exact absurd ((C.Da y x ky M).2 hr) J
 .rw[UX,C.Ig s];by_cases g:y=s<;>simp[g]<;>omega
theorem TR.fin{v:Int}(J:eR beh fr to v U){i:Nat}{V:List (ag×ag)}(C:TR beh fr to U cm i (fr,true) V):eR beh fr to (v+1) V:=by
 refine⟨C.nd,C.ed,?_,fun s h1 h2=>?_⟩
 .rw[C.Ig,J.src];simp
 .rw[C.Ig,J.mid s h1 h2,if_neg (fun e=>h1 e.symm),if_neg (fun e=>h2 e.symm)];rfl
theorem eR.nil:eR beh fr to 0 []:=⟨List.nodup_nil,fun e h=>by simp at h,rfl,fun _ _ _=>rfl⟩
end
structure iP(beh:Nat->List Int)(fr to:Int)(l:List Int):Prop where
 len:2<=l.length
 hd:l.getD 0 0=fr
 Ih:l.getD (l.length - 1) 0=to
 nd:l.Nodup
 st:∀ i,i+1<l.length->l.getD (i+1) 0∈beh (l.getD i 0).toNat
structure eL(U:List (ag×ag))(fr to:Int)(l:List Int):Prop where
 len:2<=l.length
 hd:l.getD 0 0=fr
 ch:∀ i,i+1<l.length->((l.getD i 0,true),(l.getD (i+1) 0,false))∈U
 nt:∀ i,0<i->i+1<l.length->l.getD i 0≠to
theorem vo{l:List Int}{x:Int}{i:Nat}(h:i<l.length):(l++[x]).getD i 0=l.getD i 0:=by
 rw[aV,List.getElem?_append_left h, <- List.getD_eq_getElem?_getD]
theorem IC{l:List Int}{x:Int}:(l++[x]).getD l.length 0=x:=by
 rw[aV,List.getElem?_append_right (aU _),Nat.sub_self];rfl
section
variable{beh:Nat->List Int}{fr to:Int}{v:Int}{U:List (ag×ag)}{l l':List Int}
theorem eL.two{c:Int}(hc:((fr,true),(c,false))∈U):eL U fr to [fr,c]:=by
 refine⟨aU _,rfl,fun i hi=>?_,fun i h0 hi=>?_⟩
 .have:i=0:=by simp at hi;omega
  subst this;exact hc
 .simp at hi;omega
theorem eL.next(h:eL U fr to l){d:Int}(hl:l.getD (l.length - 1) 0≠to)(hd:((l.getD (l.length - 1) 0,true),(d,false))∈U):eL U fr to (l++[d]):=by
 have h2:=h.len;refine⟨by simp;omega,by rw[vo oG];exact h.hd,fun i hi=>?_,fun i h0 hi=>?_⟩
 .have hi:i<l.length:=by simp at hi;exact hi
  by_cases g:i+1=l.length
  .rw[vo hi,g,IC];rw[show i=l.length - 1 by omega];exact hd
  .rw[vo hi,vo oG];exact h.ch i oG
 .have hi:i<l.length:=by simp at hi;exact hi
  rw[vo hi];by_cases g:i+1=l.length
  .rw[show i=l.length - 1 by omega];exact hl
  .exact h.nt i h0 oG
theorem eL.ne(C:eR beh fr to v U)(h:eL U fr to l){i:Nat}(h0:0<i)(hi:i<l.length):l.getD i 0≠fr:=by
 have:=C.ed _ (h.ch (i - 1) oG);rw[show i - 1+1=i by omega] at this;cases this;assumption
theorem eL.inj(C:eR beh fr to v U)(h:eL U fr to l)(h':eL U fr to l'):∀ i j,0<i->0<j->i<l.length->j<l'.length->l.getD i 0≠to->l.getD i 0=l'.getD j 0->i=j/\l.getD 1 0=l'.getD 1 0:=fun i=>by
 induction i with
 |zero=>intro j h0;omega
 |succ i ih=>
  intro j _ h0 hi hj ht he;obtain⟨j,rfl⟩:∃ k,j=k+1:=⟨j - 1,oG⟩
  have e1:=h.ch i hi;have e2:=h'.ch j hj;rw[<- he] at e2;have hp:=C.ab4 ht e1 e2;by_cases M:i=0
  .by_cases J:j=0
   .subst M J;exact⟨rfl,he⟩
   .exfalso;subst M;exact h'.ne C (i:=j) oG oG (by rw[<- hp,h.hd])
  .by_cases J:j=0
   .exfalso;subst J;exact h.ne C (i:=i) oG oG (by rw[hp,h'.hd])
   .obtain⟨a,b⟩:=ih j oG oG oG oG (h.nt i oG hi) hp;exact⟨oG,b⟩
theorem eL.nodup(J:eR beh fr to v U)(M:fr≠to)(h:eL U fr to l):l.Nodup:=by
 unfold List.Nodup;rw[List.pairwise_iff_getElem];intro i j hi hj X he;have C:∀ k (hk:k<l.length),l[k]=l.getD k 0:=fun k hk=>by rw[aV,aK hk];rfl
 have he:l.getD i 0=l.getD j 0:=by rw[<- C i hi, <- C j hj];exact he
 have h2:=h.len;rcases Nat.eq_zero_or_pos i with g|g
 .subst g;exact h.ne J (i:=j) oG hj (by rw[<- he,h.hd])
 .have:=(h.inj J h i j g oG oG hj (h.nt i g oG) he).1;omega
theorem eL.QK(C:eR beh fr to v U)(J:fr≠to)(h:eL U fr to l)(hl:l.getD (l.length - 1) 0=to):iP beh fr to l:=by
 refine⟨h.len,h.hd,hl,h.nodup C J,fun i hi=>?_⟩;have:=C.ed _ (h.ch i hi);cases this;assumption
theorem eL.apart(C:eR beh fr to v U)(h:eL U fr to l)(h':eL U fr to l')(J:l.getD 1 0≠l'.getD 1 0):∀ i,0<i->i+1<l.length->l.getD i 0∉l':=fun i h0 hi hm=>by
 obtain⟨j,hj⟩:=cU hm;have M:=(bj.1 hj).1;have hg:l'.getD j 0=l.getD i 0:=by rw[aV,hj];rfl
 rcases Nat.eq_zero_or_pos j with g|g
 .subst g;exact h.ne C h0 oG (by rw[<- hg,h'.hd])
 .exact J (h.inj C h' i j h0 g oG M (h.nt i h0 hi) hg.symm).2
theorem eL.more(C:eR beh fr to v U)(h:eL U fr to l)(hl:l.getD (l.length - 1) 0≠to):∃ d,((l.getD (l.length - 1) 0,true),(d,false))∈U/\d∈beh (l.getD (l.length - 1) 0).toNat:=by
 have h2:=h.len;have he:=h.ch (l.length - 2) oG;rw[show l.length - 2+1=l.length - 1 by omega] at he;obtain⟨_,d,hd⟩:=C.pass he hl;have:=C.ed _ hd;cases this;exact⟨d,hd,oN⟩
theorem eR.outs(J:eR beh fr to 2 U){L:List Int}(hL:L.Nodup)(M:∀ c,c∈L↔c∈beh fr.toNat):(L.filter fun c=>cP U (fr,true) (c,false)).length=2:=by
 have bc:U.countP (fun e=>e.2==(fr,true))=0:=List.countP_eq_zero.2 fun e he hp=>by
  have hp:e.2=(fr,true):=by simpa using hp
  have C:=J.ed e he;obtain⟨x,y⟩:=e;dsimp only at hp C;subst hp;cases C;contradiction
 have hs:=J.src;unfold hZ at hs;have qA:U.countP (fun e=>e.1==(fr,true))=2:=by omega
 rw[List.countP_eq_length_filter] at qA
 have hp:((L.filter fun c=>cP U (fr,true) (c,false)).map fun c=>(((fr,true),(c,false)):ag×ag)).Perm (U.filter fun e=>e.1==(fr,true)):=by
  refine(List.perm_ext_iff_of_nodup ?_ (J.nd.filter _)).2 fun e=>?_
  .refine List.Pairwise.map _ (fun a b X e=>X ?_) (hL.filter _);simpa using e
  .rw[List.mem_map,List.mem_filter];constructor
   .rintro⟨c,hc,rfl⟩;rw[List.mem_filter] at hc;exact⟨by simpa[cP] using hc.2,oS⟩
   .rintro⟨he,h1⟩;obtain⟨x,y⟩:=e;have h1:x=(fr,true):=by simpa using h1
    subst h1;have C:=J.ed _ he;dsimp only at C;cases C with
    |out hc _ _=>exact⟨_,List.mem_filter.2 ⟨(M _).2 hc,by simpa[cP] using he⟩,rfl⟩
 have:=hp.length_eq;rw[List.length_map] at this;omega
end
structure c9 where
 par:List Int
 one:List (List Int)
 two:List (List Int)
def pA(par:List Int)(b:Int):Int:=par.getD b.toNat 0
inductive cB(par:List Int):Nat->Int->Int->Prop
 |refl (a:Int):cB par 0 a a
 |step {m:Nat} {b a:Int}:0<b->b<par.length->cB par m (pA par b) a->cB par (m+1) b a
def ek(par:List Int):Nat->Int->Int->Bool
 |0,b,a=>b==a
 |k+1,b,a=>if(b==a)=true then true else if b<=0\/pA par b<0\/(par.length:Int)<=pA par b then false else ek par k (pA par b) a
def nv(par:List Int):Nat->Int->Option (List Int)
 |k,b=>if b=0 then some [0] else match k with
  |0=>none
  |k+1=>if b<0\/(par.length:Int)<=b then none else(nv par k (pA par b)).map (b::·)
section
variable{par:List Int}
theorem cB.Ii:∀ {m:Nat} {b:Int} {m':Nat},cB par m b 0->cB par m' b 0->m=m'
 |0,b,m',h,h'=>by
  cases h;cases h' with
  |refl=>rfl
  |step h0 _ _=>omega
 |m+1,b,m',h,h'=>by
  cases h with
  |step h0 h1 h2=>
   cases h' with
   |refl=>omega
   |step _ _ C=>rw[h2.Ii C]
theorem cB.trans:∀ {m k:Nat} {b c a:Int},cB par m b c->cB par k c a->cB par (m+k) b a
 |0,k,b,c,a,h,h'=>by cases h;rw[Nat.zero_add];exact h'
 |m+1,k,b,c,a,h,h'=>by
  cases h with
  |step h0 h1 h2=>rw[Nat.add_right_comm];exact .step h0 h1 (h2.trans h')
theorem cB.rest:∀ {m k:Nat} {b c:Int},cB par m b 0->cB par k b c->∃ j,m=k+j/\cB par j c 0
 |m,0,b,c,h,h'=>by cases h';exact⟨m,oG,h⟩
 |m,k+1,b,c,h,h'=>by
  cases h' with
  |step h0 h1 h2=>
   cases h with
   |refl=>omega
   |step _ _ h3=>
    obtain⟨j,e,hj⟩:=h3.rest h2;exact⟨j,oG,hj⟩
def mR(par:List Int):Nat->Int->List Int
 |0,b=>[b]
 |m+1,b=>b::mR par m (pA par b)
theorem SX(m:Nat):∀ b,(mR par m b).length=m+1:=by
 induction m with
 |zero=>intro b;rfl
 |succ m ih=>intro b;simp[mR,ih]
theorem vt:∀ {m:Nat} {b x:Int},cB par m b 0->(x∈mR par m b↔∃ k,k<=m/\cB par k b x)
 |0,b,x,h=>by
  cases h;simp only[mR,List.mem_singleton];constructor
  .rintro rfl;exact⟨0,aU _,.refl _⟩
  .rintro⟨k,hk,hl⟩;obtain rfl:k=0:=by omega
   cases hl;rfl
 |m+1,b,x,h=>by
  cases h with
  |step h0 h1 h2=>
   simp only[mR,List.mem_cons];constructor
   .rintro(rfl|hx)
    .exact⟨0,Nat.zero_le _,.refl _⟩
    .obtain⟨k,hk,hl⟩:=(vt h2).1 hx;exact⟨k+1,oG,.step h0 h1 hl⟩
   .rintro⟨k,hk,hl⟩;cases hl with
    |refl=>exact .inl rfl
    |step _ _ hl=>exact .inr ((vt h2).2 ⟨_,oG,hl⟩)
theorem cB.range{m:Nat}{b:Int}(h:cB par m b 0)(hp:0<par.length):0<=b/\b.toNat<par.length:=by
 cases h with
 |refl=>exact⟨Int.le_refl _,by simpa using hp⟩
 |step h0 h1 _=>exact⟨oG,oG⟩
theorem AK:∀ {m:Nat} {b:Int},cB par m b 0->(mR par m b).Nodup
 |0,b,_=>by simp[mR]
 |m+1,b,h=>by
  cases h with
  |step h0 h1 h2=>
   refine List.nodup_cons.2 ⟨fun hm=>?_,AK h2⟩;obtain⟨k,hk,hl⟩:=(vt h2).1 hm;obtain⟨j,e,hj⟩:=h2.rest hl;have:=hj.Ii (cB.step h0 h1 h2);omega
theorem cB.lt{m:Nat}{b:Int}(h:cB par m b 0)(hp:0<par.length):m<par.length:=by
 have:=vA (n:=par.length) (AK h) fun x hx=>by
  obtain⟨k,_,hl⟩:=(vt h).1 hx;obtain⟨j,_,hj⟩:=h.rest hl;exact hj.range hp
 rw[SX] at this;omega
theorem Df:∀ {k:Nat} {b a:Int},b<par.length->ek par k b a=true->∃ m,m<=k/\cB par m b a
 |0,b,a,_,h=>by
  have:b=a:=by simpa[ek] using h
  subst this;exact⟨0,aU _,.refl _⟩
 |k+1,b,a,hb,h=>by
  unfold ek at h;split at h
  .rename_i e;have:b=a:=by simpa using e
   subst this;exact⟨0,Nat.zero_le _,.refl _⟩
  .split at h
   .cases h
   .rename_i e;obtain⟨m,hm,hl⟩:=Df oG h;exact⟨m+1,oG,.step oG hb hl⟩
theorem Im:∀ {k m:Nat} {b a:Int},(∀ x,∀ j,cB par j b x->x≠a->j<m->0<=pA par x/\pA par x<par.length)->cB par m b a->m<=k->ek par k b a=true
 |0,m,b,a,_,h,hm=>by
  obtain rfl:m=0:=by omega
  cases h;simp[ek]
 |k+1,m,b,a,hr,h,hm=>by
  unfold ek;by_cases e:b=a
  .rw[if_pos (by simp[e])]
  .rw[if_neg (by simp[e])];cases h with
   |refl=>exact absurd rfl e
   |step h0 h1 h2=>
    have:=hr b 0 (.refl _) e oG;rw[if_neg oG];exact Im (fun x j hj hx C=>hr x (j+1) (.step h0 h1 hj) hx oG) h2 oG
theorem DQ{m:Nat}{b:Int}(h:cB par m b 0)(hp:0<par.length){a:Int}:ek par par.length b a=true↔∃ k,cB par k b a:=by
 constructor
 .intro hl;obtain⟨k,_,hk⟩:=Df (by have:=h.range hp;omega) hl;exact⟨k,hk⟩
 .rintro⟨k,hk⟩;obtain⟨j,e,hj⟩:=h.rest hk;have:=h.lt hp;refine Im (fun x i hi hx J=>?_) hk oG;obtain⟨M,e2,C⟩:=h.rest hi;cases C with
  |refl=>omega
  |step _ _ h3=>have:=h3.range hp;omega
theorem I1{b:Int}(hb:b<par.length)(hp:0<par.length):ek par par.length b 0=true↔∃ m,cB par m b 0:=by
 constructor
 .intro hl;obtain⟨m,_,hm⟩:=Df hb hl;exact⟨m,hm⟩
 .rintro⟨m,hm⟩;exact(DQ hm hp).2 ⟨m,hm⟩
theorem Ki:∀ {k:Nat} {b:Int} {l:List Int},nv par k b=some l->∃ m,cB par m b 0/\l=mR par m b
 |k,b,l,h=>by
  unfold nv at h;split at h
  .rename_i e;subst e;cases h;exact⟨0,.refl _,rfl⟩
  .rename_i e;cases k with
   |zero=>cases h
   |succ k=>
    dsimp only at h;split at h
    .cases h
    .rename_i e2;obtain⟨l',h1,rfl⟩:=bY.1 h;obtain⟨m,hm,rfl⟩:=Ki h1;exact⟨m+1,.step oG oG hm,rfl⟩
theorem Mu:∀ {k m:Nat} {b:Int},cB par m b 0->m<=k->nv par k b=some (mR par m b)
 |k,0,b,h,_=>by cases h;unfold nv;rw[if_pos rfl];rfl
 |0,m+1,b,h,hm=>by omega
 |k+1,m+1,b,h,hm=>by
  cases h with
  |step h0 h1 h2=>
   unfold nv;rw[if_neg oG];dsimp only;rw[if_neg oG,Mu h2 oG];rfl
theorem EJ{m:Nat}{b:Int}(h:cB par m b 0)(hp:0<par.length):nv par (par.length+1) b=some (mR par m b):=Mu h (by have:=h.lt hp;omega)
end
def bS(par:List Int)(b:Int):Bool:=decide (0<b)&&pA par b== -1
def lenP(d:c9)(n:Nat):Bool:=decide (d.par.length=n)&&(decide (d.one.length=n)&&(decide (d.two.length=n)&&pA d.par 0== -1))
def kH(beh:Nat->List Int)(par:List Int)(n b:Nat):Bool:=bS par b||((b==0||(k5 n (pA par b)&&(!(bS par (pA par b))&&ek par par.length b 0)))&& !((beh b).any (bS par)))
def iO(ahd:Nat->List Int)(par:List Int)(b:Nat):Bool:=b==0||(bS par b||(ahd b).all fun a=>bS par a||ek par par.length a (pA par b))
def lN(beh ahd:Nat->List Int)(n:Nat)(d:c9):Bool:=lenP d n&&((List.range n).all (kH beh d.par n)&&(List.range n).all (iO ahd d.par))
def kZ(beh:Nat->List Int)(n:Nat)(l:List Int)(i:Nat):Bool:=k5 n (l.getD i 0)&&(!(gM (l.take i) (l.getD i 0))&&(i==0||gM (beh (l.getD (i - 1) 0).toNat) (l.getD i 0)))
def pv(beh:Nat->List Int)(n:Nat)(l:List Int)(fr to:Int):Bool:=decide (2<=l.length)&&(l.getD 0 0==fr&&(l.getD (l.length - 1) 0==to&&(List.range l.length).all (kZ beh n l)))
def j4(beh:Nat->List Int)(n:Nat)(l:List Int)(fr to:Int):Bool:=decide (l.length<=n)&&pv beh n l fr to
def wg(one two:List Int):Bool:=(List.range (one.length - 2)).all fun i=> !(gM two (one.getD (i+1) 0))
def jF(beh:Nat->List Int)(n:Nat)(d:c9)(b:Nat):Bool:=
 if pA d.par b= -1 then(d.one.getD b []).length+(d.two.getD b []).length==0 else j4 beh n (d.one.getD b []) (pA d.par b) b&&(j4 beh n (d.two.getD b []) (pA d.par b) b&&wg (d.one.getD b []) (d.two.getD b []))
def qf(beh ahd:Nat->List Int)(n:Nat)(d:c9):Bool:=lN beh ahd n d&&(List.range n).all (jF beh n d)
def xd(beh:Nat->List Int)(n:Nat)(d:c9)(b:Nat):Bool:=
 if b=0\/pA d.par b= -1 then(d.one.getD b []).length+(d.two.getD b []).length==0
 else match nv d.par (d.par.length+1) b with
  |none=>false
  |some l=>pv beh n (d.one.getD b []) (pA d.par b) b&&(pv beh n (d.two.getD b []) (pA d.par b) b&&(!(gM l.tail b)&&wg (d.one.getD b []) (d.two.getD b [])))
def GF(ahd:Nat->List Int)(par:List Int)(b:Nat):Bool:=(ahd b).all fun a=>if a≠0/\pA par a= -1 then true else !(decide (b≠0)&&pA par b== -1)&&(b==0||gM ((nv par (par.length+1) a).getD []) (pA par b))
def ue(beh ahd:Nat->List Int)(n:Nat)(d:c9):Bool:=lenP d n&&((List.range n).all (xd beh n d)&&(List.range n).all (GF ahd d.par))
structure kC(beh ahd:Nat->List Int)(n:Nat)(d:c9):Prop where
 lp:d.par.length=n
 lo:d.one.length=n
 lt:d.two.length=n
 p0:pA d.par 0= -1
 chain:∀ b:Nat,b<n->b≠0->pA d.par b≠ -1->∃ m,cB d.par m b 0
 GG:∀ b:Nat,b<n->bS d.par b=false->∀ c∈beh b,bS d.par c=false
 pJ:∀ b:Nat,b<n->b≠0->bS d.par b=false->∀ a∈ahd b,bS d.par a=false->∃ k,cB d.par k a (pA d.par b)
 none:∀ b:Nat,b<n->pA d.par b= -1->d.one.getD b []=[]/\d.two.getD b []=[]
 ways:∀ b:Nat,b<n->pA d.par b≠ -1->iP beh (pA d.par b) b (d.one.getD b [])/\iP beh (pA d.par b) b (d.two.getD b [])/\∀ i,0<i->i+1<(d.one.getD b []).length->(d.one.getD b []).getD i 0∉d.two.getD b []
theorem qc{beh:Nat->List Int}{n:Nat}(hb:∀ b,∀ c∈beh b,0<=c/\c.toNat<n){l:List Int}{fr to:Int}:pv beh n l fr to=true↔iP beh fr to l/\0<=fr/\fr.toNat<n:=by
 have C:∀ k (hk:k<l.length),l[k]=l.getD k 0:=fun k hk=>by rw[aV,aK hk];rfl
 unfold pv;simp only[aG,decide_eq_true_eq,beq_iff_eq,bh,List.mem_range];constructor
 .rintro⟨h1,h2,h3,h4⟩
  have hs:∀ i,i<l.length->k5 n (l.getD i 0)=true/\gM (l.take i) (l.getD i 0)=false/\(i=0\/l.getD i 0∈beh (l.getD (i - 1) 0).toNat):=fun i hi=>by
   have:=h4 i hi;unfold kZ at this;simp only[aG,Bool.not_eq_true',Bool.or_eq_true,beq_iff_eq,o4] at this;exact this
  have h0:=xP.1 (hs 0 oG).1;rw[h2] at h0;refine⟨⟨h1,h2,h3,?_,fun i hi=>?_⟩,h0.1,oG⟩
  .unfold List.Nodup;rw[List.pairwise_iff_getElem];intro i j hi hj na he;rw[C i hi,C j hj] at he;have:=(hs j hj).2.1;rw[Bool.eq_false_iff] at this;refine this (o4.2 ?_);rw[<- he, <- C i hi];exact bJ (i:=i) (by rw[List.getElem?_take,if_pos na,aK hi])
  .rcases(hs (i+1) hi).2.2 with h|h
   .omega
   .exact h
 .rintro⟨h,h0,h1⟩;refine⟨h.len,h.hd,h.Ih,fun i hi=>?_⟩;unfold kZ;simp only[aG,Bool.not_eq_true',Bool.or_eq_true,beq_iff_eq,o4]
  have J:0<=l.getD i 0/\(l.getD i 0).toNat<n/\(i=0\/l.getD i 0∈beh (l.getD (i - 1) 0).toNat):=by
   cases i with
   |zero=>rw[h.hd];exact⟨h0,h1,.inl rfl⟩
   |succ i=>
    have:=h.st i hi;exact⟨(hb _ _ this).1,(hb _ _ this).2,.inr this⟩
  refine⟨xP.2 ⟨J.1,oG⟩,?_,J.2.2⟩;rw[Bool.eq_false_iff];intro X;have hm:=o4.1 X;obtain⟨j,hj⟩:=cU hm;have M:=(bj.1 hj).1;rw[List.length_take] at M;rw[List.getElem?_take,if_pos oG,aK oG] at hj;have bG:=h.nd;unfold List.Nodup at bG;rw[List.pairwise_iff_getElem] at bG;exact bG j i oG hi oG (by rw[C i hi];exact Option.some.inj hj)
theorem Ew{beh:Nat->List Int}{n:Nat}(hb:∀ b,∀ c∈beh b,0<=c/\c.toNat<n){l:List Int}{fr to:Int}(h:iP beh fr to l)(h0:0<=fr)(h1:fr.toNat<n):l.length<=n:=vA h.nd fun x hx=>by
 obtain⟨i,hi⟩:=cU hx;have C:=(bj.1 hi).1;have e:l.getD i 0=x:=by rw[aV,hi];rfl
 rw[<- e];cases i with
 |zero=>rw[h.hd];exact⟨h0,h1⟩
 |succ i=>exact hb _ _ (h.st i C)
theorem Br{beh:Nat->List Int}{n:Nat}(hb:∀ b,∀ c∈beh b,0<=c/\c.toNat<n){l:List Int}{fr to:Int}:j4 beh n l fr to=pv beh n l fr to:=by
 unfold j4;cases h:pv beh n l fr to with
 |false=>simp
 |true=>
  obtain⟨h1,h2,h3⟩:=(qc hb).1 h;simp[Ew hb h1 h2 h3]
theorem A1{one two:List Int}:wg one two=true↔∀ i,0<i->i+1<one.length->one.getD i 0∉two:=by
 unfold wg;simp only[bh,List.mem_range,Bool.not_eq_true'];constructor
 .intro h i h0 hi hm;have:=h (i - 1) oG;rw[show i - 1+1=i by omega,Bool.eq_false_iff] at this;exact this (o4.2 hm)
 .intro h i hi;rw[Bool.eq_false_iff];intro C;exact h (i+1) oG oG (o4.1 C)
theorem rK{d:c9}{n:Nat}:lenP d n=true↔d.par.length=n/\d.one.length=n/\d.two.length=n/\pA d.par 0= -1:=by
 unfold lenP;simp
section
variable{beh ahd:Nat->List Int}{n:Nat}(h:oi beh ahd n){d:c9}
theorem A2{par:List Int}{b:Int}:bS par b=true↔0<b/\pA par b= -1:=by
 unfold bS;rw[aG,decide_eq_true_eq,beq_iff_eq]
theorem lK{par:List Int}{b:Int}:bS par b=false↔b<=0\/pA par b≠ -1:=by
 rw[Bool.eq_false_iff,ne_eq,A2];omega
include h
theorem RD(hp:qf beh ahd n d=true):kC beh ahd n d:=by
 have eT:=h.pos;unfold qf lN at hp;rw[aG,aG,aG,rK] at hp;obtain⟨⟨⟨l1,l2,l3,l4⟩,h1,h2⟩,h3⟩:=hp
 have r1:∀ b:Nat,b<n->bS d.par b=true\/((b=0\/(k5 n (pA d.par b)=true/\bS d.par (pA d.par b)=false/\ek d.par d.par.length b 0=true))/\(beh b).any (bS d.par)=false):=fun b hb=>by
  have:=bh.1 h1 b (List.mem_range.2 hb);unfold kH at this;simpa only[Bool.or_eq_true,aG,beq_iff_eq,Bool.not_eq_true'] using this
 have r2:∀ b:Nat,b<n->b=0\/bS d.par b=true\/∀ a∈ahd b,bS d.par a=true\/ek d.par d.par.length a (pA d.par b)=true:=fun b hb=>by
  have:=bh.1 h2 b (List.mem_range.2 hb);unfold iO at this;simpa only[Bool.or_eq_true,bh,beq_iff_eq] using this
 have r3:∀ b:Nat,b<n->jF beh n d b=true:=fun b hb=>bh.1 h3 b (List.mem_range.2 hb)
 have oQ:∀ b:Nat,b<n->b≠0->pA d.par b≠ -1->∃ m,cB d.par m b 0:=fun b hb C M=>by
  rcases r1 b hb with g|⟨g,_⟩
  .exact absurd (A2.1 g).2 M
  .rcases g with g|⟨_,_,g⟩
   .exact absurd g C
   .exact(I1 oG oG).1 g
 have uG:∀ b:Nat,b<n->bS d.par b=false->∃ m,cB d.par m b 0:=fun b hb J=>by
  by_cases C:b=0
  .subst C;exact⟨0,.refl _⟩
  .rcases lK.1 J with g|g
   .omega
   .exact oQ b hb C g
 refine⟨l1,l2,l3,l4,oQ,fun b hb J c hc=>?_,fun b hb C J a ha fX=>?_,fun b hb he=>?_,fun b hb M=>?_⟩
 .rcases r1 b hb with g|⟨_,g⟩
  .rw[J] at g;cases g
  .have:=List.any_eq_false.1 g c hc;simpa using this
 .rcases r2 b hb with g|g|g
  .exact absurd g C
  .rw[J] at g;cases g
  .rcases g a ha with g|g
   .rw[fX] at g;cases g
   .have X:=(h.ni b a).1 ha;obtain⟨an,rfl⟩:=dd X.1;obtain⟨m,hm⟩:=uG an (by simpa using X.2.1) fX;exact(DQ hm oG).1 g
 .have:=r3 b hb;unfold jF at this;rw[if_pos he,beq_iff_eq] at this;exact⟨List.length_eq_zero_iff.1 oG,List.length_eq_zero_iff.1 oG⟩
 .have:=r3 b hb;unfold jF at this;rw[if_neg M,aG,aG,Br h.to,Br h.to,qc h.to,qc h.to,A1] at this;exact⟨this.1.1,this.2.1.1,this.2.2⟩
theorem RE(hp:kC beh ahd n d):qf beh ahd n d=true:=by
 have eT:=h.pos
 have uG:∀ b:Nat,b<n->bS d.par b=false->∃ m,cB d.par m b 0:=fun b hb J=>by
  by_cases C:b=0
  .subst C;exact⟨0,.refl _⟩
  .rcases lK.1 J with g|g
   .omega
   .exact hp.chain b hb C g
 have Q9:=hp.lp
 have vg:∀ b:Nat,b<n->b≠0->pA d.par b≠ -1->0<=pA d.par b/\(pA d.par b).toNat<n/\bS d.par (pA d.par b)=false:=fun b hb C M=>by
  obtain⟨m,hm⟩:=hp.chain b hb C M;cases hm with
  |refl=>exact absurd rfl C
  |step h0 h1 h2=>
   have:=h2.range oG;refine⟨this.1,oG,lK.2 ?_⟩;generalize pA d.par b=p at h2 this M ⊢;cases h2 with
   |refl=>exact .inl oG
   |step _ _ h3=>
    have:=h3.range oG;exact .inr oG
 unfold qf lN;rw[aG,aG,aG,rK];refine⟨⟨⟨hp.lp,hp.lo,hp.lt,hp.p0⟩,bh.2 fun b hb=>?_,bh.2 fun b hb=>?_⟩,bh.2 fun b hb=>?_⟩
 .have hb:=List.mem_range.1 hb;unfold kH;simp only[Bool.or_eq_true,aG,beq_iff_eq,Bool.not_eq_true'];cases J:bS d.par b with
  |true=>exact .inl rfl
  |false=>
   refine .inr ⟨?_,List.any_eq_false.2 fun c hc=>by rw[hp.GG b hb J c hc];simp⟩;by_cases C:b=0
   .exact .inl C
   .have M:pA d.par b≠ -1:=by
     rcases lK.1 J with g|g
     .omega
     .exact g
    obtain⟨X,u2,u3⟩:=vg b hb C M;exact .inr ⟨xP.2 ⟨X,oG⟩,u3,(I1 oG oG).2 (hp.chain b hb C M)⟩
 .have hb:=List.mem_range.1 hb;unfold iO;simp only[Bool.or_eq_true,bh,beq_iff_eq];by_cases C:b=0
  .exact .inl C
  .refine .inr ?_;cases J:bS d.par b with
   |true=>exact .inl rfl
   |false=>
    refine .inr fun a ha=>?_;cases fX:bS d.par a with
    |true=>exact .inl rfl
    |false=>
     have eX:=(h.ni b a).1 ha;obtain⟨k,hk⟩:=hp.pJ b hb C J a ha fX;obtain⟨an,rfl⟩:=dd eX.1;obtain⟨m,hm⟩:=uG an (by simpa using eX.2.1) fX;exact .inr ((DQ hm oG).2 ⟨k,hk⟩)
 .have hb:=List.mem_range.1 hb;unfold jF;by_cases he:pA d.par b= -1
  .obtain⟨e1,e2⟩:=hp.none b hb he;rw[if_pos he,e1,e2];rfl
  .obtain⟨w1,w2,w3⟩:=hp.ways b hb he;have C:b≠0:=fun e=>he (by rw[e];exact hp.p0);obtain⟨X,u2,_⟩:=vg b hb C he;rw[if_neg he,aG,aG,Br h.to,Br h.to,qc h.to,qc h.to,A1];exact⟨⟨w1,X,u2⟩,⟨w2,X,u2⟩,w3⟩
theorem I9:qf beh ahd n d=true↔kC beh ahd n d:=⟨RD h,RE h⟩
theorem R1(hp:ue beh ahd n d=true):kC beh ahd n d:=by
 have eT:=h.pos;unfold ue at hp;rw[aG,aG,rK] at hp;obtain⟨⟨l1,l2,l3,l4⟩,h1,h2⟩:=hp;have r1:∀ b:Nat,b<n->xd beh n d b=true:=fun b hb=>bh.1 h1 b (List.mem_range.2 hb)
 have r2:∀ b:Nat,b<n->∀ a∈ahd b,¬ (a≠0/\pA d.par a= -1)->¬ (b≠0/\pA d.par b= -1)/\(b=0\/pA d.par b∈(nv d.par (d.par.length+1) a).getD []):=fun b hb a ha hn=>by
  have:=bh.1 h2 b (List.mem_range.2 hb);unfold GF at this;have:=bh.1 this a ha;rw[if_neg hn] at this;simp only[aG,Bool.not_eq_true',Bool.and_eq_false_iff,decide_eq_false_iff_not,beq_eq_false_iff_ne,Bool.or_eq_true,beq_iff_eq,o4,Decidable.not_not,ne_eq] at this;refine⟨fun g=>?_,this.2⟩;rcases this.1 with g1|g1
  .exact g.1 g1
  .exact g1 g.2
 have oQ:∀ b:Nat,b<n->b≠0->pA d.par b≠ -1->∃ m,cB d.par m b 0:=fun b hb C ap=>by
  have:=r1 b hb;unfold xd at this;rw[if_neg oG] at this;cases M:nv d.par (d.par.length+1) b with
  |none=>rw[M] at this;cases this
  |some l=>
   obtain⟨m,hm,_⟩:=Ki M;exact⟨m,hm⟩
 have hz:∀ a:Int,bS d.par a=false->0<=a->¬ (a≠0/\pA d.par a= -1):=fun a J h0=>by
  have:=lK.1 J;omega
 have uG:∀ b:Nat,b<n->bS d.par b=false->∃ m,cB d.par m b 0:=fun b hb J=>by
  by_cases C:b=0
  .subst C;exact⟨0,.refl _⟩
  .rcases lK.1 J with g|g
   .omega
   .exact oQ b hb C g
 refine⟨l1,l2,l3,l4,oQ,fun b hb J c hc=>?_,fun b hb C J a ha fX=>?_,fun b hb he=>?_,fun b hb ap=>?_⟩
 .have iD:=h.to b c hc;obtain⟨X,rfl⟩:=dd iD.1;rw[b9] at iD;have fu:(b:Int)∈ahd X:=(h.ni X b).2 ⟨oG,by simpa using hb,by simpa using hc⟩;obtain⟨g,_⟩:=r2 X iD.2 b fu (hz b J oG);refine lK.2 ?_;omega
 .have eX:=(h.ni b a).1 ha;obtain⟨_,g⟩:=r2 b hb a ha (hz a fX eX.1);obtain⟨an,rfl⟩:=dd eX.1;obtain⟨m,hm⟩:=uG an (by simpa using eX.2.1) fX;rcases g with g|g
  .exact absurd g C
  .rw[EJ hm oG] at g;obtain⟨k,_,hk⟩:=(vt hm).1 g;exact⟨k,hk⟩
 .have:=r1 b hb;unfold xd at this;rw[if_pos (.inr he),beq_iff_eq] at this;exact⟨List.length_eq_zero_iff.1 oG,List.length_eq_zero_iff.1 oG⟩
 .have:=r1 b hb;have C:b≠0:=fun e=>ap (by rw[e];exact l4);unfold xd at this;rw[if_neg oG] at this;cases M:nv d.par (d.par.length+1) b with
  |none=>rw[M] at this;cases this
  |some l=>
   rw[M] at this;dsimp only at this;rw[aG,aG,aG,qc h.to,qc h.to,A1] at this;exact⟨this.1.1,this.2.1.1,this.2.2.2⟩
theorem R2(hp:kC beh ahd n d):ue beh ahd n d=true:=by
 have eT:=h.pos;have Q9:=hp.lp
 have uG:∀ b:Nat,b<n->bS d.par b=false->∃ m,cB d.par m b 0:=fun b hb ho=>by
  by_cases C:b=0
  .subst C;exact⟨0,.refl _⟩
  .rcases lK.1 ho with g|g
   .omega
   .exact hp.chain b hb C g
 unfold ue;rw[aG,aG,rK];refine⟨⟨hp.lp,hp.lo,hp.lt,hp.p0⟩,bh.2 fun b hb=>?_,bh.2 fun b hb=>?_⟩
 .have hb:=List.mem_range.1 hb;unfold xd;by_cases he:b=0\/pA d.par b= -1
  .have dq:pA d.par b= -1:=by
    rcases he with rfl|g
    .exact hp.p0
    .exact g
   obtain⟨e1,e2⟩:=hp.none b hb dq;rw[if_pos he,e1,e2];rfl
  .have C:b≠0:=fun e=>he (.inl e);have J:pA d.par b≠ -1:=fun e=>he (.inr e);obtain⟨m,hm⟩:=hp.chain b hb C J;obtain⟨w1,w2,w3⟩:=hp.ways b hb J;rw[if_neg he,EJ hm oG];dsimp only
   have hr:0<=pA d.par b/\(pA d.par b).toNat<n:=by
    cases hm with
    |refl=>exact absurd rfl C
    |step h0 h1 h2=>have:=h2.range oG;exact⟨this.1,oG⟩
   have bG:=AK hm;rw[aG,aG,aG,qc h.to,qc h.to,A1];refine⟨⟨w1,hr.1,hr.2⟩,⟨w2,hr.1,hr.2⟩,?_,w3⟩;rw[Bool.not_eq_true',Bool.eq_false_iff];intro hh;have iS:=o4.1 hh;cases m with
   |zero=>simp[mR] at iS
   |succ m=>exact(List.nodup_cons.1 bG).1 iS
 .have hb:=List.mem_range.1 hb;unfold GF;refine bh.2 fun a ha=>?_;have X:=(h.ni b a).1 ha;by_cases hn:a≠0/\pA d.par a= -1
  .rw[if_pos hn]
  .rw[if_neg hn];have fX:bS d.par a=false:=lK.2 oG;obtain⟨M,rfl⟩:=dd X.1;have ng:M<n:=by simpa using X.2.1
   have AA:=hp.GG M ng fX b (by simpa using X.2.2);obtain⟨m,hm⟩:=uG M ng fX;have ho:=lK.1 AA;rw[aG,Bool.not_eq_true',Bool.or_eq_true,EJ hm oG];constructor
   .by_cases e:b=0
    .subst e;rfl
    .have J:pA d.par b≠ -1:=by omega
     rw[Bool.and_eq_false_iff];exact .inr (beq_eq_false_iff_ne.2 J)
   .by_cases e:b=0
    .subst e;exact .inl rfl
    .refine .inr (o4.2 ?_);obtain⟨k,hk⟩:=hp.pJ b hb e AA _ ha fX;obtain⟨j,ej,_⟩:=hm.rest hk;exact(vt hm).2 ⟨k,oG,hk⟩
theorem Ky:ue beh ahd n d=true↔kC beh ahd n d:=⟨R1 h,R2 h⟩
theorem Uq:qf beh ahd n d=ue beh ahd n d:=by rw[Bool.eq_iff_iff,I9 h,Ky h]
end
section
variable{beh ahd:Nat->List Int}{n:Nat}(h:oi beh ahd n)
include h
theorem Cl:a9 beh n 0:=(SV (w:= -1) h.to h.pos oG).1
theorem Eg{x:Nat}{c:Int}(hx:a9 beh n x)(hc:c∈beh x):a9 beh n c.toNat:=Iv h.to h.pos hx c hc
theorem Zs{b:Nat}(hb:b<n):pA (dQ beh ahd n) b=ct (dQ beh ahd n) b:=by
 unfold pA ct;have:(b:Int).toNat<(dQ beh ahd n).length:=by rw[tK h];simpa using hb
 rw[aV,aV,aK this];rfl
theorem qg{b:Nat}(C:a9 beh n b):b<n:=by
 rcases Nat.lt_or_ge b n with g|g
 .exact g
 .exfalso;have hl:=vB (w:= -1) h.to h.pos;unfold a9 at C;rw[aV,List.getElem?_eq_none oG] at C;cases C
open Classical in
theorem o6{b:Nat}(hb:b<n):pA (dQ beh ahd n) b=if b≠0/\a9 beh n b then((dB beh ahd n b:Nat):Int) else -1:=by
 rw[Zs h hb];by_cases h0:b=0
 .subst h0;rw[if_neg oS];exact UW h
 .by_cases C:a9 beh n b
  .rw[if_pos ⟨h0,C⟩];exact(ES h C h0).1
  .rw[if_neg (fun g=>C g.2)];exact VS h C
theorem Bs{b:Nat}(hb:b<n):bS (dQ beh ahd n) b=true↔¬ a9 beh n b:=by
 rw[A2,o6 h hb];by_cases h0:b=0
 .subst h0;simp[Cl h]
 .by_cases C:a9 beh n b
  .rw[if_pos ⟨h0,C⟩];simp[C]
  .rw[if_neg (fun g=>C g.2)];simp[C];omega
theorem Kj{w:Nat}:∀ x,a9 beh n x->bb (dB beh ahd n) w x->∃ k,cB (dQ beh ahd n) k x w:=
 (mL h).ind (p:=fun x=>bb (dB beh ahd n) w x->∃ k,cB (dQ beh ahd n) k x w) (fun ha=>by
  have:=ha.zero (mL h).jd rfl;subst this
  exact⟨0,.refl _⟩) fun x C hx _ _ ih ha=>by
  rcases ha.inv with e|ha
  .subst e;exact⟨0,.refl _⟩
  .obtain⟨k,hk⟩:=ih ha;have J:=qg h C;refine⟨k+1,.step oG (by rw[tK h];omega) ?_⟩;rw[o6 h J,if_pos ⟨hx,C⟩];exact hk
omit h in
theorem UZ{p a b:Nat}(hd:sS beh p b)(J:p≠b)(C:(b:Int)∈beh a):sS beh p a:=fun hv=>hd (.step hv C fun e=>J e.symm)
theorem E1{b:Nat}(C:a9 beh n b)(J:b≠0):sS beh (dB beh ahd n b) b/\dB beh ahd n b≠b:=by
 refine⟨(v8 h C).1 (.up (.refl _)),fun e=>?_⟩;have:=((mL h).par b C J).2;rw[e] at this;omega
theorem Sw{d:c9}(hp:d.par=dQ beh ahd n)(lo:d.one.length=n)(lt:d.two.length=n)(bK:∀ b:Nat,b<n->(b=0\/¬ a9 beh n b)->d.one.getD b []=[]/\d.two.getD b []=[])
 (hw:∀ b:Nat,a9 beh n b->b≠0->iP beh (dB beh ahd n b:Nat) b (d.one.getD b [])/\iP beh (dB beh ahd n b:Nat) b (d.two.getD b [])/\∀ i,0<i->i+1<(d.one.getD b []).length->(d.one.getD b []).getD i 0∉d.two.getD b []):kC beh ahd n d:=by
 have bc:∀ b:Nat,b<n->pA d.par b≠ -1->b≠0/\a9 beh n b:=fun b hb J=>by
  rw[hp,o6 h hb] at J;by_cases g:b≠0/\a9 beh n b
  .exact g
  .rw[if_neg g] at J;exact absurd rfl J
 refine⟨by rw[hp];exact tK h,lo,lt,?_,fun b hb X J=>?_,fun b hb M c hc=>?_,fun b hb X M a ha fX=>?_,fun b hb he=>?_,fun b hb J=>?_⟩
 .rw[hp];have:=o6 h h.pos;rw[if_neg oS] at this;exact this
 .obtain⟨_,C⟩:=bc b hb J;rw[hp];exact Kj h b C ((mL h).VQ b C)
 .rw[hp] at M ⊢;have C:a9 beh n b:=Classical.byContradiction fun g=>by rw[(Bs h hb).2 g] at M;cases M
  have rc:=Eg h C hc;have iD:=h.to b c hc;obtain⟨cn,rfl⟩:=dd iD.1;rw[Bool.eq_false_iff];intro g;exact(Bs h iD.2).1 g rc
 .rw[hp] at M fX ⊢;have C:a9 beh n b:=Classical.byContradiction fun g=>by rw[(Bs h hb).2 g] at M;cases M
  have eX:=(h.ni b a).1 ha;obtain⟨an,rfl⟩:=dd eX.1;rw[b9] at eX;have ra:a9 beh n an:=Classical.byContradiction fun g=>by rw[(Bs h eX.2.1).2 g] at fX;cases fX
  rw[o6 h hb,if_pos ⟨X,C⟩];obtain⟨hd,J⟩:=E1 h C X;exact Kj h an ra ((v8 h ra).2 (UZ hd J eX.2.2))
 .refine bK b hb ?_;rw[hp,o6 h hb] at he;by_cases g:b≠0/\a9 beh n b
  .rw[if_pos g] at he;omega
  .by_cases h0:b=0
   .exact .inl h0
   .exact .inr fun C=>g ⟨h0,C⟩
 .obtain⟨X,C⟩:=bc b hb J;have:=hw b C X;rw[hp,o6 h hb,if_pos ⟨X,C⟩];exact this
omit h in
theorem Ln{fr to:Int}{l:List Int}(C:iP beh fr to l){S:Nat->Prop}(h0:S fr.toNat)(hS:∀ x,S x->∀ c∈beh x,c∈l->S c.toNat):S to.toNat:=by
 have J:∀ i,i<l.length->l.getD i 0∈l:=fun i hi=>by
  rw[aV,aK hi];exact cZ hi
 have key:∀ i,i<l.length->S (l.getD i 0).toNat:=fun i=>by
  induction i with
  |zero=>intro _;rw[C.hd];exact h0
  |succ i ih=>
   intro hi;exact hS _ (ih oG) _ (C.st i hi) (J _ hi)
 have:=key (l.length - 1) (by have:=C.len;omega)
 rwa[C.Ih] at this
theorem A3{d:c9}(hp:kC beh ahd n d){b:Nat}(hb:b<n):bS d.par b=false↔a9 beh n b:=by
 have eT:=h.pos;have hl:=hp.lp;constructor
 .have key:∀ m (b:Nat),b<n->cB d.par m b 0->a9 beh n b:=fun m=>by
   induction m with
   |zero=>
    intro b hb hl;cases hl;exact Cl h
   |succ m ih=>
    intro b hb hl;have uU:=hl;cases hl with
    |step h0 h1 h2=>
     have hr:=h2.range oG;have C:pA d.par b≠ -1:=by omega
     have X:=ih (pA d.par b).toNat oG (by rw[Int.toNat_of_nonneg hr.1];exact h2);have:=Ln (hp.ways b hb C).1 (S:=a9 beh n) X fun x hx c hc _=>Eg h hx hc
     rwa[b9] at this
  intro ho;by_cases J:b=0
  .subst J;exact Cl h
  .have C:pA d.par b≠ -1:=by
    rcases lK.1 ho with g|g
    .omega
    .exact g
   obtain⟨m,hm⟩:=hp.chain b hb J C;exact key m b hb hm
 .have:=Jz (beh:=beh) (w:= -1) (n:=n) (S:=fun x=>x<n/\bS d.par x=false) (fun x hx c hc _=>by
   have M:=h.to x c hc;have:=hp.GG x hx.1 hx.2 c hc
   exact⟨M.2,by rw[Int.toNat_of_nonneg M.1];exact this⟩) ⟨eT,lK.2 (.inl oS)⟩ b
  exact fun rb=>(this rb).2
theorem TP{d:c9}(hp:kC beh ahd n d){q:Nat}:∀ {x:Nat},Av (fQ beh) q x->a9 beh n x/\∀ k,¬ cB d.par k x q:=fun {x} hv=>by
 induction hv with
 |zero X=>
  refine⟨Cl h,fun k hk=>?_⟩;have hk:cB d.par k 0 q:=hk;generalize hq:(q:Int)=qi at hk;cases hk with
  |refl=>omega
  |step h0 _ _=>omega
 |@step x c hv he X ih=>
  have rc:a9 beh n c:=by
   have:=Eg h ih.1 he
   rwa[b9] at this
  refine⟨rc,fun k hk=>?_⟩;have C:=qg h rc;have J:=qg h ih.1;generalize hq:(q:Int)=qi at hk;cases hk with
  |refl=>omega
  |step h0 h1 h2=>
   have M:(x:Int)∈ahd c:=(h.ni c x).2 ⟨oG,by simpa using J,by rw[b9];exact he⟩;obtain⟨j,hj⟩:=hp.pJ c C oG ((A3 h hp C).2 rc) x M ((A3 h hp J).2 ih.1);rw[<- hq] at h2;exact ih.2 _ (hj.trans h2)
theorem I8{d:c9}(hp:kC beh ahd n d):d.par=dQ beh ahd n:=by
 have eT:=h.pos;have hl:=hp.lp;refine List.ext_getElem? fun i=>?_;rcases(Nat.lt_or_ge i n).symm with hi|hi
 .rw[List.getElem?_eq_none oG,List.getElem?_eq_none (by rw[tK h];omega)]
 have gd:∀ (l:List Int),l.length=n->l[i]? =some (pA l i):=fun l hl=>by
  unfold pA;rw[b9,aV,aK oG];rfl
 rw[gd _ hl,gd _ (tK h),o6 h hi];congr 1;by_cases h0:i=0
 .subst h0;rw[if_neg oS];exact hp.p0
 by_cases ri:¬ a9 beh n i
 .rw[if_neg (fun g=>ri g.2)]
  have:bS d.par i=true:=by
   cases e:bS d.par i with
   |true=>rfl
   |false=>exact absurd ((A3 h hp hi).1 e) ri
  exact(A2.1 this).2
 have ri:a9 beh n i:=Classical.not_not.1 ri;rw[if_pos ⟨h0,ri⟩]
 have X:pA d.par i≠ -1:=by
  rcases lK.1 ((A3 h hp hi).2 ri) with g|g
  .omega
  .exact g
 obtain⟨m,hm⟩:=hp.chain i hi h0 X;obtain⟨M,w2,w3⟩:=hp.ways i hi X;have bG:=AK hm
 have J:0<=pA d.par i/\(pA d.par i).toNat<n/\pA d.par i≠i:=by
  generalize Q5:(i:Int)=ii at hm;cases hm with
  |refl=>omega
  |step h0 h1 h2=>
   have:=h2.range oG;refine⟨this.1,oG,fun e=>?_⟩;have hd:=cB.Ii h2 (by rw[e];exact .step h0 h1 h2);omega
 obtain⟨p,ja⟩:=dd J.1;rw[ja] at J M w2 X;rw[ja];have HH:p<n:=by simpa using J.2.1
 have tg:p≠i:=fun e=>J.2.2 (by rw[e]);have oL:sS beh p i:=fun hv=>(TP h hp hv).2 1 (.step oG oG (by rw[ja];exact .refl _))
 have oq:bb (dB beh ahd n) p (dB beh ahd n i):=by
  rcases((v8 h ri).2 oL).inv with g|g
  .exact absurd g tg
  .exact g
 obtain⟨rp,eV⟩:=(mL h).low ((mL h).par i ri h0).1 oq
 have vg:sS beh (dB beh ahd n i) p:=fun hv=>by
  generalize hq:dB beh ahd n i=q at hv;obtain⟨Rv,qZ⟩:=E1 h ri h0;rw[hq] at Rv qZ
  have hqp:(q:Int)≠p:=fun e=>by
   have e:q=p:=by omega
   subst e;cases hv with
   |zero g=>
    have:=(mL h).jd;exact g rfl
   |step _ _ g=>exact g rfl
  have key:∀ l,iP beh p i l->(q:Int)∈l:=fun l hw=>Classical.byContradiction fun HP=>Rv (by
   have:=Ln hw (S:=fun x=>Av (fQ beh) q x) (by rw[b9];exact hv) fun x hx c hc cD=>by
    have iD:=h.to x c hc;refine .step hx ?_ fun e=>HP ?_
    .show((c.toNat:Nat):Int)∈beh x;rw[Int.toNat_of_nonneg iD.1];exact hc
    .have:(q:Int)=c:=by rw[<- e];exact Int.toNat_of_nonneg iD.1
     rw[this];exact cD
   rwa[b9] at this)
  have m1:=key _ M;have m2:=key _ w2;obtain⟨j,hj⟩:=cU m1;have dy:=(bj.1 hj).1;have C:(d.one.getD i []).getD j 0=q:=by rw[aV,hj];rfl
  have ie:j≠0:=fun e=>by rw[e,M.hd] at C;exact hqp C.symm
  have hje:j≠(d.one.getD i []).length - 1:=fun e=>by rw[e,M.Ih] at C;omega
  exact w3 j oG oG (by rw[C];exact m2)
 have tB:=(v8 h rp).2 vg;obtain⟨_,afe⟩:=(mL h).low rp tB;have:p=dB beh ahd n i:=by omega
 rw[this]
end
section
variable{beh ahd:Nat->List Int}{n:Nat}(h:oi beh ahd n)
include h
theorem Lp{fr:Nat}{w:Int}{x:Nat}(c:Int)(hx:Av (fQ beh) fr x\/x=fr\/Rf beh fr w x)(hc:c∈beh x)(C:c≠w\/Av (fQ beh) fr c.toNat):Av (fQ beh) fr c.toNat\/c.toNat=fr\/Rf beh fr w c:=by
 have J:=h.to x c hc
 have he:fQ beh x c.toNat:=by
  show((c.toNat:Nat):Int)∈beh x;rw[Int.toNat_of_nonneg J.1];exact hc
 by_cases hf:c.toNat=fr
 .exact .inr (.inl hf)
 .rcases C with C|C
  .rcases hx with hx|hx|hx
   .exact .inl (.step hx he hf)
   .subst hx;exact .inr (.inr (.one (by simpa using hc) oG C))
   .exact .inr (.inr (.step hx (by simpa using hc) oG C))
  .exact .inl C
theorem Vy{b:Nat}(C:a9 beh n b)(hz:b≠0){w:Int}(hw:w≠(dB beh ahd n b:Nat))(Rw:w≠b):Rf beh (dB beh ahd n b:Nat) w b:=by
 obtain⟨hd,M⟩:=E1 h C hz;have rf:=((mL h).par b C hz).1;generalize hf:dB beh ahd n b=fr at hw hd M rf
 have fin:(Av (fQ beh) fr b\/b=fr\/Rf beh fr w (b:Nat))->Rf beh fr w b:=fun g=>by
  rcases g with g|g|g
  .exact absurd g hd
  .exact absurd g.symm M
  .exact g
 by_cases X:0<=w/\¬ Av (fQ beh) fr w.toNat
 .obtain⟨J,rfl⟩:=dd X.1;have hwd:sS beh fr J:=by have:=X.2;rwa[b9] at this
  have hv:Av (fQ beh) J b:=by
   apply Classical.byContradiction;intro bK;have fu:=(v8 h C).2 (show sS beh J b from bK);rcases fu.inv with g|g
   .exact Rw (by rw[g])
   .rw[hf] at g;obtain⟨Rx,hl⟩:=(mL h).low rf g;have hfa:=(v8 h Rx).2 hwd;obtain⟨_,uU⟩:=(mL h).low Rx hfa;have:J≠fr:=fun e=>hw (by rw[e]);omega
  refine fin ?_;clear fin hd M C hz Rw hf
  induction hv with
  |zero g=>
   by_cases e:0=fr
   .exact .inr (.inl e)
   .exact .inl (.zero e)
  |@step x c _ he g ih=>
   have:=Lp h (w:=(J:Int)) (c:Int) ih he (.inl oG)
   rwa[b9] at this
 .refine fin ?_
  have key:=Jz (beh:=beh) (w:= -1) (n:=n) (S:=fun x=>Av (fQ beh) fr x\/x=fr\/Rf beh fr w (x:Nat)) (fun x hx c hc _=>by
   have iD:=h.to x c hc
   have:=Lp h (w:=w) c hx hc (by
    by_cases e:c=w
    .refine .inr ?_;subst e;exact Classical.byContradiction fun g=>X ⟨iD.1,g⟩
    .exact .inl e)
   rw[Int.toNat_of_nonneg iD.1];exact this) (by
   by_cases e:0=fr
   .exact .inr (.inl e)
   .exact .inl (.zero e)) b
  exact key C
end
def qu(n:Nat)(fr to:Int)(s:ag):Prop:=0<=s.1/\s.1.toNat<n/\(s.2=false->s.1≠fr)/\(s.2=true->s.1≠to)
def N2(U:List (ag×ag)):Prop:=∀ x y,(x,y)∈U->(y,x)∉U
section
variable{beh:Nat->List Int}{fr to:Int}{n:Nat}{U cm:List (ag×ag)}{op:List ag}
theorem Vr(hb:∀ b,∀ c∈beh b,0<=c/\c.toNat<n)(J:∀ b,n<=b->beh b=[])(us:∀ e∈U,0<=e.1.1/\0<=e.2.1)(ed:∀ e∈U,iu beh fr to e.1 e.2){x y:ag}(hx:qu n fr to x)(h:oF beh fr to U x y):qu n fr to y:=by
 rcases h with⟨h,_⟩|h
 .cases h with
  |out hc hf _=>exact⟨(hb _ _ hc).1,(hb _ _ hc).2,fun _=>hf,fun e=>by cases e⟩
  |uY hf ht=>exact⟨hx.1,hx.2.1,(fun e=>by cases e),fun _=>ht⟩
 .have C:=us _ h;have he:=ed _ h;obtain⟨M,X⟩:=y;dsimp only at he C;cases he with
  |out hc hf ht=>
   refine⟨C.1,?_,(fun e=>by cases e),fun _=>ht⟩;rcases Nat.lt_or_ge M.toNat n with g|g
   .exact g
   .rw[J _ g] at hc;simp at hc
  |uY hf _=>exact⟨hx.1,hx.2.1,(fun _=>hf),fun e=>by cases e⟩
theorem wj(h:SR beh fr to U cm op)(hk:∀ k∈bf cm,qu n fr to k):cm.length<=2*n:=by
 have h1:((bf cm).map zn).Nodup:=List.Pairwise.map _ (fun a b C e=>C (TN e)) h.nd
 have:=vA (n:=2*n) h1 fun x hx=>by
  obtain⟨k,M,rfl⟩:=List.mem_map.1 hx;have:=hk k M;unfold zn qu at*
  obtain⟨k1,J⟩:=k;dsimp only at*
  cases J<;>simp<;>omega
 rw[List.length_map] at this;unfold bf at this
 rwa[List.length_map] at this
theorem Vs(ed:∀ e∈U,iu beh fr to e.1 e.2)(h:N2 U)(hn:U.Nodup){x y:ag}(hxy:x≠y):N2 (iI U x y):=by
 unfold iI cP;split
 .intro a b X J;exact h a b (List.mem_of_mem_erase X) (List.mem_of_mem_erase J)
 .rename_i M;have M:(y,x)∉U:=by simpa using M
  intro a b X J;rcases List.mem_append.1 X with g|g
  .rcases List.mem_append.1 J with C|C
   .exact h a b g C
   .simp only[List.mem_singleton,a8] at C;obtain⟨rfl,rfl⟩:=C;exact M g
  .simp only[List.mem_singleton,a8] at g;obtain⟨rfl,rfl⟩:=g;rcases List.mem_append.1 J with C|C
   .exact M C
   .simp only[List.mem_singleton,a8] at C;exact hxy C.1.symm
theorem Lq{x y:ag}(h:iu beh fr to x y):x≠y:=by
 cases h<;>simp
theorem Wo(ed:∀ e∈U,iu beh fr to e.1 e.2){x y:ag}(h:oF beh fr to U x y):x≠y:=by
 rcases h with⟨h,_⟩|h
 .exact Lq h
 .exact fun e=>Lq (ed _ h) e.symm
theorem Dh(ed:∀ e∈U,iu beh fr to e.1 e.2){a:Int}{K:ag->Prop}(h1:∀ c∈beh a.toNat,c≠fr->((a,true),(c,false))∉U->K (c,false))(h2:a≠fr->((a,false),(a,true))∈U->K (a,false)):∀ y,oF beh fr to U (a,true) y->K y:=fun y h=>by
 rcases h with⟨h,hn⟩|h
 .cases h with
  |out hc hf _=>exact h1 _ hc hf hn
 .have he:=ed _ h;obtain⟨C,J⟩:=y;dsimp only at he;cases he with
  |uY hf _=>exact h2 hf h
theorem Ti(ed:∀ e∈U,iu beh fr to e.1 e.2)(us:∀ e∈U,0<=e.1.1/\0<=e.2.1){b:Int}{K:ag->Prop}(h1:((b,false),(b,true))∉U->K (b,true))(h2:∀ a:Int,0<=a->b∈beh a.toNat->((a,true),(b,false))∈U->K (a,true)):∀ y,oF beh fr to U (b,false) y->K y:=fun y h=>by
 rcases h with⟨h,hn⟩|h
 .cases h with
  |uY _ _=>exact h1 hn
 .have he:=ed _ h;have C:=us _ h;obtain⟨J,M⟩:=y;dsimp only at he C;cases he with
  |out hc _ _=>exact h2 _ C.1 hc h
end
def kf{σ:Type}(step:σ->Option σ):Nat->σ->Option σ
 |0,s=>some s
 |k+1,s=>(kf step k s).bind step
theorem EK{σ:Type}{step:σ->Option σ}{k:Nat}{s t:σ}(h:kf step k s=some t)(he:step t=none):∀ j,kf step (k+j+1) s=none
 |0=>by show(kf step k s).bind step=none;rw[h];exact he
 |j+1=>by show(kf step (k+j+1) s).bind step=none;rw[EK h he j];rfl
theorem Eh{σ:Type}{step:σ->Option σ}{k C:Nat}{s t J:σ}(h:kf step k s=some t)(he:step t=none)(h':kf step C s=some J)(M:step J=none):t=J:=by
 rcases Nat.lt_trichotomy k C with g|g|g
 .have:=EK h he (C - k - 1);rw[show k+(C - k - 1)+1=C by omega,h'] at this;cases this
 .subst g;rw[h] at h';cases h';rfl
 .have:=EK h' M (k - C - 1);rw[show C+(k - C - 1)+1=k by omega,h] at this;cases this
theorem vF{σ:Type}{step:σ->Option σ}{k:Nat}{s t u:σ}(h:kf step k s=some t)(hs:step t=some u):kf step (k+1) s=some u:=by
 show(kf step k s).bind step=_;rw[h];exact hs
abbrev SS:=List (ag×ag)×List ag
def my(U:List (ag×ag))(x:ag)(s:SS)(y:ag):SS:=if y∉bf s.1/\(x,y)∉U then(s.1++[(y,x)],s.2++[y]) else s
def tt(fr:Int)(U:List (ag×ag))(b:Int)(l:List Int)(s:SS):SS:=l.foldl (fun s t=>if t=fr then s else my U (b,true) s (t,false)) s
def tv(U:List (ag×ag))(b:Int)(l:List Int)(s:SS):SS:=l.foldl (fun s t=>if cP U (t,true) (b,false)=true then my U (b,false) s (t,true) else s) s
def zj(beh ahd:Nat->List Int)(fr to:Int)(U:List (ag×ag))(s:SS):Option SS:=match s.2 with
 |[]=>none
 |(b,true)::op=>some (if b≠fr/\cP U (b,false) (b,true)=true then my U (b,true) (tt fr U b (beh b.toNat) (s.1,op)) (b,false) else tt fr U b (beh b.toNat) (s.1,op))
 |(b,false)::op=>if b=to then none else some (tv U b (ahd b.toNat) (my U (b,false) (s.1,op) (b,true)))
def yX(beh ahd:Nat->List Int)(fr to:Int)(U cm:List (ag×ag)):Prop:=∃ k op,kf (zj beh ahd fr to U) k ([((fr,true),(fr,true))],[(fr,true)])=some (cm,op)/\zj beh ahd fr to U (cm,op)=none
def FP(cm:List (ag×ag))(y:ag):Option ag:=(cm.find? fun e=>e.1==y).map (·.2)
def BQ(fr:Int)(cm:List (ag×ag))(s:ag×List (ag×ag)):Option (ag×List (ag×ag)):=if s.1=(fr,true) then none else(FP cm s.1).map fun x=>(x,iI s.2 x s.1)
def Cm(fr to:Int)(cm U V:List (ag×ag)):Prop:=∃ k,kf (BQ fr cm) k ((to,false),U)=some ((fr,true),V)
inductive pP(beh ahd:Nat->List Int)(fr to:Int):Nat->List (ag×ag)->Prop
 |zero:pP beh ahd fr to 0 []
 |succ {r:Nat} {U cm V:List (ag×ag)} (h:pP beh ahd fr to r U) (hs:yX beh ahd fr to U cm) (hb:Cm fr to cm U V):pP beh ahd fr to (r+1) V
def wD(beh:Nat->List Int)(to:Int)(U:List (ag×ag))(s:List Int×Int):Option (List Int×Int):=if s.2=to then none else((beh s.2.toNat)[(j3 (fun d=>cP U (s.2,true) (d,false)) (beh s.2.toNat)).toNat]?).map fun d=>(s.1++[s.2],d)
def uq(beh:Nat->List Int)(fr to:Int)(U:List (ag×ag))(c:Int)(w:List Int):Prop:=∃ k w',kf (wD beh to U) k ([fr],c)=some (w',to)/\w=w'++[to]
def wS(beh ahd:Nat->List Int)(fr to:Int)(d:D):Prop:=
 (to∈beh fr.toNat/\d=.tup [ao [fr,to],ao [fr,to]])\/(to∉beh fr.toNat/\∃ U C J,pP beh ahd fr to 2 U/\[C,J].map (fun w=>w.getD 1 0)=(beh fr.toNat).filter (fun c=>cP U (fr,true) (c,false))/\(∀ w∈[C,J],uq beh fr to U (w.getD 1 0) w)/\d=.tup [ao C,ao J])
section
variable{beh ahd:Nat->List Int}{fr to:Int}{U cm oI V V':List (ag×ag)}
theorem yX.pB(h:yX beh ahd fr to U cm)(h':yX beh ahd fr to U oI):cm=oI:=by
 obtain⟨k,op,h1,h2⟩:=h;obtain⟨X,M,J,C⟩:=h';have:=Eh h1 h2 J C;cases this;rfl
theorem Cm.pB(h:Cm fr to cm U V)(h':Cm fr to cm U V'):V=V':=by
 obtain⟨k,h1⟩:=h;obtain⟨J,C⟩:=h';have he:∀ W,BQ fr cm ((fr,true),W)=none:=fun W=>if_pos rfl;have:=Eh h1 (he _) C (he _);cases this;rfl
theorem pP.pB{r:Nat}(h:pP beh ahd fr to r V):∀ {V'},pP beh ahd fr to r V'->V=V':=by
 induction h with
 |zero=>intro V' h';cases h';rfl
 |succ h hs hb ih=>
  intro V' h';cases h' with
  |succ g gs C=>
   have:=ih g;subst this;have:=hs.pB gs;subst this;exact hb.pB C
theorem uq.pB{c:Int}{w w':List Int}(h:uq beh fr to U c w)(h':uq beh fr to U c w'):w=w':=by
 obtain⟨k,v,h1,rfl⟩:=h;obtain⟨J,M,C,rfl⟩:=h';have he:∀ W,wD beh to U (W,to)=none:=fun W=>if_pos rfl;have:=Eh h1 (he _) C (he _);cases this;rfl
theorem wS.pB{d d':D}(h:wS beh ahd fr to d)(h':wS beh ahd fr to d'):d=d':=by
 rcases h with⟨h0,rfl⟩|⟨h0,U,J,M,hS,hm,C,rfl⟩<;>rcases h' with⟨Ik,rfl⟩|⟨Ik,U',w1',w2',zZ,fE,vi,rfl⟩
 .rfl
 .exact absurd h0 Ik
 .exact absurd Ik h0
 .have:=hS.pB zZ;subst this;rw[<- fE] at hm;simp only[List.map_cons,List.map_nil,List.cons.injEq,and_true] at hm;have e1:=(C J oS).pB (hm.1▸vi w1' oS);have e2:=(C M oS).pB (hm.2▸vi w2' oS);rw[e1,e2]
theorem JV{l:List Int}{i:Nat}{t b:Int}{s:SS}(ht:l[i]? =some t):tt fr U b (l.take (i+1)) s=if t=fr then tt fr U b (l.take i) s else my U (b,true) (tt fr U b (l.take i) s) (t,false):=by
 unfold tt;rw[List.take_add_one,ht,Option.toList_some,List.foldl_append,List.foldl_cons,List.foldl_nil]
theorem JW{l:List Int}{i:Nat}{t b:Int}{s:SS}(ht:l[i]? =some t):tv U b (l.take (i+1)) s=if cP U (t,true) (b,false)=true then my U (b,false) (tv U b (l.take i) s) (t,true) else tv U b (l.take i) s:=by
 unfold tv;rw[List.take_add_one,ht,Option.toList_some,List.foldl_append,List.foldl_cons,List.foldl_nil]
theorem Vt(hn:(bf cm).Nodup){x y:ag}(h:(y,x)∈cm):FP cm y=some x:=by
 unfold FP;cases hf:cm.find? fun e=>e.1==y with
 |none=>
  rw[List.find?_eq_none] at hf;have:=hf _ h;simp at this
 |some e=>
  have h1:=List.mem_of_find?_eq_some hf;have h2:=List.find?_some hf;obtain⟨a,b⟩:=e;have h2:a=y:=by simpa using h2
  subst h2;obtain⟨i,hi⟩:=cU h1;obtain⟨j,hj⟩:=cU h;have:=Eu hn hi hj;subst this;rw[hi] at hj;cases hj;rfl
end
end Go.Argus
namespace Go.Proofs.Tryz.K
open Go.Abs
theorem Ur:drawInfo (Z fP 17)=some []:=kr
theorem sk8:fP=(S1 (G1 fP 0) (S1 (S1 (G1 fP 1) (C1 23 (S1 (G1 fP 2) .ret) K1)) (S1 (G1 fP 3) (S1 (G1 fP 4) (S1 (G1 fP 5) (S1 (G1 fP 6) (S1 (S1 (G1 fP 7) (C1 58 (S1 (G1 fP 8) .ret) K1)) (S1 (S1 (G1 fP 9) (C1 60 (S1 (G1 fP 10) .ret) K1)) (S1 (G1 fP 11) (S1 (S1 (G1 fP 12) (C1 94 (S1 (G1 fP 13) .ret) K1)) (S1 (S1 (G1 fP 14) (B1 0 (.loop (S1 (S1 (G1 fP 15) (C1 98 K1 (X1 0))) (S1 (B1 1 (S1 (G2 fP 17) (C1 115 (S1 (G1 fP 18) .ret) K1))) (G1 fP 16)))))) (S1 (G1 fP 19) .ret)))))))))))):=kr
theorem aax:jR=(S1 (G1 jR 0) (S1 (S1 (G1 jR 1) (C1 20 (S1 (G1 jR 2) .ret) K1)) (S1 (S1 (G1 jR 3) (B1 0 (.loop (S1 (S1 (G1 jR 4) (C1 25 K1 (X1 0))) (S1 (B1 1 (S1 (G1 jR 6) (C1 34 (S1 (G1 jR 7) .ret) K1))) (G1 jR 5)))))) (S1 (S1 (G1 jR 8) (B1 2 (.loop (S1 (S1 (G1 jR 9) (C1 39 K1 (X1 2))) (S1 (B1 3 (S1 (G1 jR 11) (C1 48 (S1 (G1 jR 12) .ret) K1))) (G1 jR 10)))))) (S1 (G1 jR 13) .ret))))):=kr
theorem Ui:drawInfo (Z eI 9)=some []:=kr
theorem OH:eI=(S1 (G1 eI 0) (S1 (G1 eI 1) (S1 (S1 (G1 eI 2) (C1 20 (S1 (G1 eI 3) .ret) K1)) (S1 (S1 (G1 eI 4) (C1 25 (S1 (G1 eI 5) .ret) K1)) (S1 (S1 (G1 eI 6) (B1 0 (.loop (S1 (G1 eI 7) (S1 (C1 30 K1 (X1 0)) (S1 (B1 1 (S1 (G1 eI 8) (S1 (G2 eI 9) (S1 (S1 (G1 eI 10) (C1 45 (S1 (S1 (G1 eI 11) (C1 51 (S1 (G1 eI 12) .ret) K1)) (X1 1)) K1)) (S1 (S1 (G1 eI 13) (C1 65 (S1 (G1 eI 14) .ret) K1)) (S1 (G1 eI 15) (B1 2 (.loop (S1 (G1 eI 16) (S1 (C1 73 K1 (X1 2)) (S1 (B1 3 (S1 (G1 eI 17) (S1 (G1 eI 18) (C1 78 (S1 (G1 eI 19) .ret) K1)))) (G1 eI 20)))))))))))) (G1 eI 21))))))) (S1 (G1 eI 22) .ret)))))):=kr
theorem Uo:drawInfo (Z jS 5)=some []:=kr
theorem Up:drawInfo (Z jS 9)=some [(0,13),(1,13),(3,13),(4,13),(3,18),(4,18)]:=kr
theorem OZ:jS=(S1 (G1 jS 0) (S1 (G1 jS 1) (S1 (S1 (G1 jS 2) (C1 15 (S1 (G1 jS 3) .ret) K1)) (S1 (G1 jS 4) (S1 (G2 jS 5) (S1 (S1 (G1 jS 6) (B1 0 (.rangeFunc (.tmp 32) #[33] (G1 jS 7) (B1 1 (S1 (G1 jS 8) (C1 35 (G2 jS 9) K1)))))) (S1 (G1 jS 10) .ret))))))):=kr
theorem Tc:drawInfo (Z eJ 19)=some []:=kr
theorem aav:eJ=(S1 (G1 eJ 0) (S1 (G1 eJ 1) (S1 (S1 (G1 eJ 2) (C1 43 (S1 (G1 eJ 3) .ret) K1)) (S1 (G1 eJ 4) (S1 (S1 (G1 eJ 5) (B1 0 (.loop (S1 (G1 eJ 6) (S1 (C1 49 K1 (X1 0)) (S1 (B1 1 (S1 (G1 eJ 7) (S1 (S1 (G1 eJ 8) (C1 55 (X1 1) K1)) (S1 (G1 eJ 9) (C1 86 (S1 (G1 eJ 10) .ret) K1))))) (G1 eJ 11))))))) (S1 (S1 (G1 eJ 12) (B1 2 (.loop (S1 (S1 (G1 eJ 13) (C1 90 K1 (X1 2))) (S1 (B1 3 (S1 (S1 (G1 eJ 15) (C1 95 (X1 3) K1)) (S1 (G1 eJ 16) (B1 4 (.loop (S1 (G1 eJ 17) (S1 (C1 105 K1 (X1 4)) (S1 (B1 5 (S1 (G1 eJ 18) (S1 (G2 eJ 19) (C1 123 (S1 (G1 eJ 20) .ret) K1)))) (G1 eJ 21))))))))) (G1 eJ 14)))))) (S1 (G1 eJ 22) .ret))))))):=kr
theorem Uh:drawInfo (Z lf 6)=some []:=kr
theorem aau:lf=(S1 (G1 lf 0) (S1 (S1 (G1 lf 1) (C1 41 (S1 (G1 lf 2) .ret) K1)) (S1 (S1 (G1 lf 3) (B1 0 (.loop (S1 (G1 lf 4) (S1 (C1 45 K1 (X1 0)) (S1 (B1 1 (S1 (G1 lf 5) (S1 (G2 lf 6) (C1 79 (S1 (G1 lf 7) .ret) K1)))) (G1 lf 8))))))) (S1 (G1 lf 9) .ret)))):=kr
theorem Tg:drawInfo (Z aY 24)=some []:=kr
theorem Th:drawInfo (Z aY 15)=some []:=kr
theorem Tj:drawInfo (Z aY 53)=some [(1,15),(2,15),(3,15),(4,15),(5,15),(6,15)]:=kr
theorem Tk:drawInfo (Z aY 59)=some []:=kr
theorem aaz:aY=(S1 (G1 aY 0) (S1 (S1 (G1 aY 1) (C1 36 (S1 (G1 aY 2) .ret) K1)) (S1 (G1 aY 3) (S1 (S1 (G1 aY 4) (B1 0 (.loop (S1 (G1 aY 5) (S1 (C1 45 K1 (X1 0)) (S1 (B1 1 (.scope (S1 (G1 aY 6) (S1 (G1 aY 7) (S1 (G1 aY 8) (S1 (G1 aY 9) (S1 (G1 aY 10) (S1 (.label 0) (S1 (B1 2 (.loop (S1 (S1 (G1 aY 11) (C1 57 K1 (X1 2))) (B1 3 (S1 (G1 aY 12) (S1 (G1 aY 13) (B1 4 (S1 (G1 aY 22) (C1 94 (X1 2) (S1 (G1 aY 23) (C1 104 (S1 (S1 (G2 aY 24) (B1 7 (.loop (S1 (G1 aY 25) (S1 (C1 117 K1 (X1 7)) (S1 (B1 8 (S1 (G1 aY 26) (S1 (G1 aY 27) (C1 122 (G1 aY 28) K1)))) (G1 aY 29))))))) (S1 (G1 aY 30) (S1 (G1 aY 31) (C1 142 (G1 aY 32) K1)))) (S1 (G1 aY 14) (S1 (G2 aY 15) (B1 5 (.loop (S1 (G1 aY 16) (S1 (C1 79 K1 (X1 5)) (S1 (B1 6 (S1 (G1 aY 17) (S1 (G1 aY 18) (S1 (G1 aY 19) (C1 88 (G1 aY 20) K1))))) (G1 aY 21))))))))))))))))))) (S1 (G1 aY 33) (B1 9 (.loop (S1 (S1 (G1 aY 34) (C1 151 K1 (X1 9))) (S1 (B1 10 (S1 (G1 aY 36) (S1 (G1 aY 37) (C1 162 (G1 aY 38) (G1 aY 39))))) (S1 (S1 (G1 aY 40) (G1 aY 41)) (G1 aY 35)))))))))))))))) (G1 aY 42))))))) (S1 (G1 aY 43) (S1 (G1 aY 44) (S1 (S1 (G1 aY 45) (B1 11 (.loop (S1 (G1 aY 46) (S1 (C1 182 K1 (X1 11)) (S1 (B1 12 (S1 (G1 aY 47) (S1 (S1 (G1 aY 48) (C1 196 (X1 12) K1)) (S1 (G1 aY 49) (S1 (S1 (G1 aY 50) (B1 13 (.loop (S1 (B1 14 (S1 (G1 aY 51) (S1 (S1 (G1 aY 52) (C1 206 (X1 13) K1)) (G2 aY 53)))) (S1 (G1 aY 54) (G1 aY 55)))))) (S1 (G1 aY 56) (G1 aY 57))))))) (G1 aY 58))))))) (S1 (G2 aY 59) .ret)))))))):=kr
theorem XI:rX=(S1 (G1 rX 0) (S1 (G1 rX 1) (S1 (G1 rX 2) (C1 24 (S1 (G1 rX 3) (G1 rX 4)) K1)))):=kr
theorem XO:yu=(S1 (G1 yu 0) (S1 (G1 yu 1) .ret)):=kr
end Go.Proofs.Tryz.K
section
open Go Go.Abs Go.Proofs Go.Argus
namespace Go.Argus
def bO(d:c9):List D:=[ao d.par,bR d.one,bR d.two]
theorem rJ(d:c9):∀ a∈bO d,Tr a:=.cons (cH _) (.cons (yc _) (.cons (yc _) .nil))
@[simp] theorem aex (d : c9) : (bO d).length = 3 := rfl
theorem sc{par:List Int}{b:Nat}(h:b<par.length):par[b]? =some (pA par b):=by
 unfold pA;rw[b9,aV,aK h];rfl
theorem M0:∀ a b c d:Bool,(if(if(if a=true then true else b)=true then true else c)=true then true else d)=(a||(b||(c||d))):=by decide
def la(f:aC)(d:c9):D:=if bW f=0 then .tup [B (qf (a7 f) (cY f) f.blocks.length d),I 0] else .tup [B false,I (bW f)]
theorem JS(f:aC)(d:c9):Tr (la f d):=by
 unfold la;split<;>exact .tup (.cons (.s _) (.cons (.s _) .nil))
structure wy(d:c9):Prop where
 o:∀ l∈d.one,l.length<=10000
 t:∀ l∈d.two,l.length<=10000
theorem JT{L:List (List Int)}{n b:Nat}(h:∀ l∈L,l.length<=n):(L.getD b []).length<=n:=by
 rw[aV];cases e:L[b]? with
 |none=>exact Nat.zero_le _
 |some l=>exact h l (bJ e)
theorem Vn{one:List Int}{i:Nat}(h:i<one.length - 2):((one.drop 1).take (one.length - 2))[i]? =some (one.getD (i+1) 0):=by
 rw[List.getElem?_take,if_pos h,List.getElem?_drop,aV,Nat.add_comm,aK oG];rfl
theorem Kv{one:List Int}:((one.drop 1).take (one.length - 2)).length=one.length - 2:=by simp;omega
def Bl(f:aC)(d:c9):D:=if bW f=0 then .tup [B (ue (a7 f) (cY f) f.blocks.length d),I 0] else .tup [B false,I (bW f)]
def mG(l:List Int):Bool:= !decide ((30:Int)<(l.length:Int))
def vO(d:c9):Bool:= !((decide ((30:Int)<(d.par.length:Int)))||((decide ((30:Int)<(d.one.length:Int)))||(decide ((30:Int)<(d.two.length:Int)))))&&(d.one.all mG&&d.two.all mG)
theorem Uj{d:c9}(h:vO d=true):wy d:=by
 unfold vO at h;rw[aG,aG] at h;refine⟨fun l hl=>?_,fun l hl=>?_⟩
 .have:=bh.1 h.2.1 l hl;unfold mG at this;have:¬ (30:Int)<(l.length:Int):=by simpa using this
  omega
 .have:=bh.1 h.2.2 l hl;unfold mG at this;have:¬ (30:Int)<(l.length:Int):=by simpa using this
  omega
theorem QB:∀ a b c:Bool,(if(if a=true then true else b)=true then true else c)=(a||(b||c)):=by decide
end Go.Argus
namespace Go.Proofs.Tryz.K
set_option maxRecDepth 10000
theorem m7{par:List Int}{b a:Int}(hb:b<par.length):PCall prog 118 [ao par,I b,I a] (B (ek par par.length b a)):=by
 have aH:∀ x∈[ao par,I b,I a],Tr x:=.cons (cH _) (.cons (.s _) (.cons (.s _) .nil));refine mA Fw.he aH fun eQ=>?_;have hlen:=(eQ (ao par) oS).sl.1;unfold maxLen at hlen;refine bd Fw aH (Tr.s _) ?_;rw[XE];refine ws ?_;refine SS ?_;refine aa (aB (ax ?_));refine av ?_
 refine aa (cN (fun s=>∃ M,Ghost prog s ⟨aw [(1,I M),(2,I a)],fun _=>none,0⟩/\ek par par.length b a=(M==a)) (cG (α:=Nat×Int)
  (fun s=>⟨aw [(0,ao par),(1,I s.2),(2,I a),(8,I par.length),(9,I s.1)],fun _=>none,0⟩)
  (fun s=>s.1<=par.length/\s.2<par.length/\ek par par.length b a=ek par (par.length - s.1) s.2 a) (fun s=>par.length - s.1) (0,b) (aq eH) ⟨Nat.zero_le _,hb,rfl⟩ ?_) ?_)
 .rintro⟨k,c⟩ ⟨hk,hc,hinv⟩;dsimp only at hk hc hinv ⊢;refine SS ?_;refine aa ⟨_,rfl,fun h=>?_,fun h=>?_⟩
  .have af:k<par.length:=by simpa using h
   obtain⟨j,hj⟩:∃ j,par.length - k=j+1:=⟨par.length - k - 1,oG⟩
   rw[hj,ek] at hinv;refine aB (ai ?_);by_cases xn:c=a
   .have gL:(c==a)=true:=by simp[xn]
    rw[if_pos gL] at hinv;refine av ?_;refine aa (fA ?_);refine aB (ai ?_);refine SS ?_;refine aa (c8 (cz (bl (az (d:=B true) rfl ?_))));rw[hinv]
   have gL:(c==a)=false:=by simp[xn]
   rw[if_neg (by rw[gL];simp)] at hinv;refine av ?_;refine aa (ll (cu (aB (ai ?_))));have C:(c<=0\/pA par c<0\/(par.length:Int)<=pA par c)->B false=B (ek par par.length b a):=fun g=>by rw[hinv,if_pos g]
   by_cases uR:c<=0
   .have zs:decide (c<=0)=true:=decide_eq_true uR;refine av ?_;(iterate 5 refine z fun _ _=>?_);refine ab ?_;(iterate 7 refine z fun _ _=>?_);refine SS ?_;refine aa (fA ?_);refine aB (ai ?_);refine SS ?_;exact aa (c8 (cz (bl (az (d:=B false) rfl (C (.inl uR))))))
   have zs:decide (c<=0)=false:=decide_eq_false uR;obtain⟨cn,rfl⟩:=dd (show 0<=c by omega);have hx:=sc (par:=par) (b:=cn) oG;generalize pA par cn=x at hx C hinv;by_cases X:x<0
   .have wP:decide (x<0)=true:=decide_eq_true X;refine cy ?_;refine ab ?_;(iterate 7 refine z fun _ _=>?_);refine SS ?_;refine aa (fA ?_);refine aB (ai ?_);refine SS ?_;exact aa (c8 (cz (bl (az (d:=B false) rfl (C (.inr (.inl X)))))))
   have wP:decide (x<0)=false:=decide_eq_false X;by_cases J:(par.length:Int)<=x
   .have zv:decide ((par.length:Int)<=x)=true:=decide_eq_true J;refine aN ?_;refine eW ?_;refine OF ?_;refine SS ?_;refine aa (c6 rfl (fun _=>?_) fun h=>(by revert h;simp[J]));refine aB (ai ?_);refine SS ?_;exact aa (c8 (cz (bl (az (d:=B false) rfl (C (.inr (.inr J)))))))
   have zv:decide ((par.length:Int)<=x)=false:=decide_eq_false J;rw[if_neg oG] at hinv;refine aN ?_;refine eW ?_;refine OF ?_;refine SS ?_;refine aa (c6 rfl (fun h=>(by revert h;simp)) fun _=>cu (fY ?_));refine aQ ?_;refine aa ?_;refine ab ?_;refine aa (aJ (k+1,x) (aq eH) ⟨oM,oM,?_⟩ oM);dsimp only;rw[hinv,show par.length - (k+1)=j by omega]
  .have ba:¬ k<par.length:=by simpa using h
   refine⟨c,aq eH,?_⟩;rw[hinv,show par.length - k=0 by omega];rfl
 .rintro s ⟨M,hg,he⟩;refine⟨_,hg,ai ?_⟩;refine aI ?_;refine aa (az (d:=.s (.bool _)) rfl ?_);rw[he]
theorem aat{d:c9}{b:Int}(hb:b<d.par.length):PCall prog 117 [I b,.pt (bO d)] (B (bS d.par b)):=by
 refine bd MZ (.cons (.s _) (.cons (.pt (rJ d)) .nil)) (Tr.s _) ?_;rw[XF];refine ws ?_;refine SS ?_;refine er ?_;by_cases h0:0<b
 .have ei:decide (0<b)=true:=decide_eq_true h0;obtain⟨C,rfl⟩:=dd (show 0<=b by omega);have hx:=sc (par:=d.par) (b:=C) oG;have J:bS d.par C=(pA d.par C== -1):=by unfold bS;rw[ei];rfl
  generalize pA d.par C=x at hx J;refine aN ?_;refine ab ?_;refine aa (az (d:=.s (.bool _)) rfl ?_);rw[J]
 .have ei:decide (0<b)=false:=decide_eq_false h0;have J:bS d.par b=false:=by unfold bS;rw[ei];rfl
  refine av ?_;(iterate 6 refine z fun _ _=>?_);refine ab ?_;refine aa (az (d:=.s (.bool _)) rfl ?_);rw[J]
section
variable{f:aC}{beh ahd:List (List Int)}{c:D}(hc:Tr c)(dX:c.one=true)
include hc dX
theorem uS{n:Nat}(hn:f.blocks.length=n)(iX:n<=100000)(bV:beh.length=n){l:List Int}{fr to:Int}:PCall prog 53 [.pt (aM f beh ahd c),ao l,I fr,I to] (B (j4 (ah beh) n l fr to)):=by
 have aH:∀ x∈[D.pt (aM f beh ahd c),ao l,I fr,I to],Tr x:=.cons (tN hc) (.cons (cH _) (.cons (.s _) (.cons (.s _) .nil)));refine mA F9.he aH fun eQ=>?_;have hlen:=(eQ (ao l) oS).sl.1;unfold maxLen at hlen;have wR:=fun b=>lD (f:=f) (beh:=beh) (ahd:=ahd) (c:=c) hc dX (b:=b);rw[hn] at wR;refine bd F9 aH (Tr.s _) ?_;rw[aau];have X:∀ i,i<l.length->l[i]? =some (l.getD i 0):=fun i hi=>by rw[aV,aK hi];rfl
 refine ws ?_;refine SS ?_;refine aa (aB (ai ?_))
 have J:(¬ 2<=l.length\/¬ l.length<=n\/¬ l.getD 0 0=fr\/¬ l.getD (l.length - 1) 0=to)->B false=B (j4 (ah beh) n l fr to):=fun g=>by
  congr 2;refine(Bool.eq_false_iff.2 fun e=>?_).symm;unfold j4 pv at e;simp only[aG,decide_eq_true_eq,beq_iff_eq] at e;rcases g with g|g|g|g
  .exact g e.2.1
  .exact g e.1
  .exact g e.2.2.1
  .exact g e.2.2.2.1
 by_cases h2:l.length<2
 .have wP:decide ((l.length:Int)<2)=true:=decide_eq_true oG;refine aI ?_;(iterate 9 refine z fun _ _=>?_);refine ab ?_;(iterate 5 refine z fun _ _=>?_);refine ab ?_;(iterate 8 refine z fun _ _=>?_);refine SS ?_;refine aa (fA ?_);refine aB (ai ?_);refine SS ?_;exact aa (c8 (az rfl (J (.inl oG))))
 have wP:decide ((l.length:Int)<2)=false:=decide_eq_false oG;by_cases xu:n<l.length
 .have ei:decide ((f.blocks.length:Int)<(l.length:Int))=true:=decide_eq_true oG;refine aN ?_;refine bC ?_;(iterate 5 refine z fun _ _=>?_);refine ab ?_;(iterate 8 refine z fun _ _=>?_);refine SS ?_;refine aa (fA ?_);refine aB (ai ?_);refine SS ?_;exact aa (c8 (az rfl (J (.inr (.inl oG)))))
 have ei:decide ((f.blocks.length:Int)<(l.length:Int))=false:=decide_eq_false oG;have hx:=X 0 oG;have hy:=X (l.length - 1) oG;have M:(¬ l.getD 0 0=fr\/¬ l.getD (l.length - 1) 0=to)->B false=B (j4 (ah beh) n l fr to):=fun g=>J (.inr (.inr g));clear J
 have br:l.getD 0 0=fr->l.getD (l.length - 1) 0=to->j4 (ah beh) n l fr to=(List.range l.length).all (kZ (ah beh) n l):=fun e1 e2=>by
  unfold j4 pv;rw[e1,e2,decide_eq_true (show 2<=l.length by omega),decide_eq_true (show l.length<=n by omega)];simp
 have oc:((l.length:Nat):Int) - 1=((l.length - 1:Nat):Int)/\ -9223372036854775808<=((l.length - 1:Nat):Int)/\((l.length - 1:Nat):Int)<=9223372036854775807:=by omega
 generalize l.getD 0 0=x0 at hx M br;generalize l.getD (l.length - 1) 0=xl at hy M br;by_cases h0:¬ x0=fr
 .have fR:(x0 !=fr)=true:=by simpa using h0
  refine aN ?_;refine aN ?_;refine aI ?_;(iterate 8 refine z fun _ _=>?_);refine SS ?_;refine aa (fA ?_);refine aB (ai ?_);refine SS ?_;exact aa (c8 (az rfl (M (.inl h0))))
 have h0:x0=fr:=Classical.not_not.1 h0;have fR:(x0 !=fr)=false:=by simpa using h0
 refine aN ?_;refine aN ?_;refine aN ?_;refine aI ?_;refine aa (c6 rfl (fun h=>?_) fun h=>cu (aB (ax ?_)))
 .refine aB (ai ?_);refine SS ?_;exact aa (c8 (az rfl (M (.inr (by revert h;simp)))))
 have hl:xl=to:=by revert h;simp
 rw[br h0 hl];clear h M br hx hy oc ei wP fR;refine av ?_
 refine aa (cN (fun s=>Ghost prog s ⟨aw [],fun _=>none,0⟩/\∀ i,i<l.length->kZ (ah beh) n l i=true) (cG (α:=Nat)
  (fun k=>⟨aw [(0,.pt (aM f beh ahd c)),(1,ao l),(42,ao l),(43,I l.length),(44,I k)],fun _=>none,0⟩)
  (fun k=>k<=l.length/\∀ i,i<k->kZ (ah beh) n l i=true) (fun k=>l.length - k) 0 (aq eH) ⟨Nat.zero_le _,fun i h=>absurd h (Nat.not_lt_zero _)⟩ ?_) ?_)
 .rintro k ⟨hk,hinv⟩;refine SS ?_;refine aa ⟨_,rfl,fun h=>?_,fun h=>?_⟩
  .have af:k<l.length:=by simpa using h
   have hx:=X k af;have J:kZ (ah beh) n l k=false->B false=B ((List.range l.length).all (kZ (ah beh) n l)):=fun h=>by rw[mz af h]
   have qo:kZ (ah beh) n l k=true->∀ i,i<k+1->kZ (ah beh) n l i=true:=fun h i hi=>by
    by_cases e:i=k
    .subst e;exact h
    .exact hinv i oG
   have C:kZ (ah beh) n l k=(k5 n (l.getD k 0)&&(!(gM (l.take k) (l.getD k 0))&&(k==0||gM (ah beh (l.getD (k - 1) 0).toNat) (l.getD k 0)))):=rfl;generalize kZ (ah beh) n l k=ok at C J qo;generalize l.getD k 0=x at hx C;refine ws ?_;refine aQ ?_;refine aa (fK Uh ?_);have lD:=wR x;have ij:=ij (l:=l.take (k:Int).toNat) (v:=x);rw[b9] at ij;generalize gM (l.take k) x=q2 at ij C;generalize k5 n x=q1 at lD C;cases q1 with
   |false=>
    refine ab ?_;refine cl lD ?_;refine ab ?_;(iterate 5 refine z fun _ _=>?_);refine aQ ?_;(iterate 15 refine z fun _ _=>?_);refine SS ?_;refine bE bP (gI (ai ?_));refine SS ?_;exact aa (bq (cz (bl (az rfl (J C)))))
   |true=>
   refine ab ?_;refine cl lD ?_;refine aI ?_;refine aT rfl rfl (JR (f:=I) (l:=l) rfl CF c3 rfl B7 ⟨oG,oG⟩) (fun hc=>⟨(by repeat' (first|exact trivial|exact hc|exact rfl|refine And.intro ?_ ?_)),trivial⟩) ?_;rw[b9];cases q2 with
   |true=>
    refine SS ?_;refine gc ij ?_;refine aQ ?_;(iterate 15 refine z fun _ _=>?_);refine SS ?_;refine bE bP (gI (ai ?_));refine SS ?_;exact aa (bq (cz (bl (az rfl (J C)))))
   |false=>
   cases k with
   |zero=>
    have ei:decide ((0:Int)<((0:Nat):Int))=false:=rfl;refine SS ?_;refine gc ij ?_;refine aQ ?_;(iterate 14 refine z fun _ _=>?_);refine ab ?_;refine bE bP (gk (cI ?_));refine ab ?_;exact aa (aJ 1 (aq eH) ⟨oG,qo C⟩ oG)
   |succ j=>
    have ei:decide ((0:Int)<((j+1:Nat):Int))=true:=by simp
    have oc:((j+1:Nat):Int) - 1=(j:Int)/\ -9223372036854775808<=(j:Int)/\(j:Int)<=9223372036854775807:=by omega
    have hp:=X j oG;have CG:=hinv j oG;unfold kZ at CG;rw[aG] at CG;have tg:=xP.1 CG.1;rw[show j+1 - 1=j by omega] at C;generalize l.getD j 0=p at hp tg C;clear CG;obtain⟨pn,rfl⟩:=dd tg.1;rw[b9] at C;have He:=nC (beh:=beh) (b:=pn) oG;refine SS ?_;refine gc ij ?_;refine aN ?_;refine cy ?_;have ij:=K.ij (l:=ah beh pn) (v:=x);generalize gM (ah beh pn) x=q3 at ij C;refine gc ij ?_;refine av ?_;cases q3 with
    |false=>
     refine bE bP (gI (ai ?_));refine SS ?_;exact aa (bq (cz (bl (az rfl (J C)))))
    |true=>
     refine bE bP (gk (cI ?_));refine ab ?_;exact aa (aJ (j+2) (aq eH) ⟨oG,qo C⟩ oG)
  .have ba:¬ k<l.length:=by simpa using h
   exact⟨eN (l:=[]) trivial,fun i hi=>hinv i oG⟩
 .rintro s ⟨hg,ha⟩;refine⟨_,hg,ai ?_⟩;refine SS ?_;refine aa (az (d:=B true) rfl ?_);rw[show(List.range l.length).all (kZ (ah beh) n l)=true from bh.2 fun i hi=>ha i (List.mem_range.1 hi)]
end
section
variable{f:aC}{beh ahd:List (List Int)}{c:D}(hc:Tr c)(dX:c.one=true)
include hc dX
set_option maxHeartbeats 1000000 in
theorem uT{n:Nat}{d:c9}(hn:f.blocks.length=n)(iW:0<n)(iX:n<=100000)(bV:beh.length=n)(ng:ahd.length=n)(fH:∀ b,∀ t∈ah beh b,0<=t/\t.toNat<n)(q9:∀ b,∀ t∈ah ahd b,0<=t/\t.toNat<n)(Hf:∀ b,(ah ahd b).length<=100000):
 PCall prog 52 [.pt (aM f beh ahd c),.agg (bO d)] (B (lN (ah beh) (ah ahd) n d)):=by
 have aH:∀ x∈[D.pt (aM f beh ahd c),.agg (bO d)],Tr x:=.cons (tN hc) (.cons (.agg (rJ d)) .nil);have wR:=fun b=>lD (f:=f) (beh:=beh) (ahd:=ahd) (c:=c) hc dX (b:=b);rw[hn] at wR;have ap:bO d=[ao d.par,bR d.one,bR d.two]:=rfl;refine bd OG aH (Tr.s _) ?_;rw[aav];refine ax ?_;refine ab ?_;refine aa (aR (cE [(0,bO d,30)] eH (l:=[(0,.pt (aM f beh ahd c)),(3,.pt (bO d))]) eH) (ai ?_));refine eW ?_;refine aa (aB (ai ?_));have BO:lenP d n=false->B false=B (lN (ah beh) (ah ahd) n d):=fun h=>by rw[lN,h];rfl
 have EQ:lenP d n=true->lN (ah beh) (ah ahd) n d=((List.range n).all (kH (ah beh) d.par n)&&(List.range n).all (iO (ah ahd) d.par)):=fun h=>by rw[lN,h];rfl
 generalize lN (ah beh) (ah ahd) n d=res at BO EQ ⊢;by_cases hp0:d.par.length=0
 .have fR:((d.par.length:Int) !=(f.blocks.length:Int))=true:=by simp;omega
  have hb:=BO (by
   refine Bool.eq_false_iff.2 fun h=>?_;have:=(rK.1 h).1
   omega)
  refine bC ?_;(iterate 5 refine z fun _ _=>?_);refine ab ?_;(iterate 5 refine z fun _ _=>?_);refine ab ?_;(iterate 5 refine z fun _ _=>?_);refine SS ?_;refine aa (fA ?_);refine aB (ai ?_);refine SS ?_;exact aa (c8 (az rfl hb))
 have hx:=sc (par:=d.par) (b:=0) oG
 have CH:lenP d n= !(((d.par.length:Int) !=(f.blocks.length:Int))||(((d.one.length:Int) !=(f.blocks.length:Int))||(((d.two.length:Int) !=(f.blocks.length:Int))||(pA d.par ((0:Nat):Int) != -1)))):=by
  rw[Bool.eq_iff_iff,rK];simp only[Bool.not_eq_true',Bool.or_eq_false_iff,bne_eq_false_iff_eq];constructor
  .rintro⟨h1,h2,h3,h4⟩;exact⟨oG,oG,oG,h4⟩
  .rintro⟨h1,h2,h3,h4⟩;exact⟨oG,oG,oG,h4⟩
 generalize pA d.par ((0:Nat):Int)=x0 at hx CH;refine aN ?_;refine aN ?_;refine cy ?_;refine aa (c6 rfl (fun h=>?_) fun h=>cu (ai ?_))
 .refine aB (ai ?_)
  have hb:=BO (by
   rw[CH];have h:=(M0 _ _ _ _).symm.trans h
   rw[h];rfl)
  refine SS ?_;exact aa (c8 (az rfl hb))
 have af:lenP d n=true:=by
  rw[CH];have h:=(M0 _ _ _ _).symm.trans h;rw[h];rfl
 rw[EQ af];have eV:=(rK.1 af).1;clear h CH EQ BO af hp0;have z9:∀ b:Int,b<n->PCall prog 117 [I b,.pt (bO d)] (B (bS d.par b)):=fun b hb=>aat oG;have M7:∀ b a:Int,b<n->PCall prog 118 [ao d.par,I b,I a] (B (ek d.par d.par.length b a)):=fun b a hb=>m7 oG;have M8:∀ b,PCall prog 119 [ao (ah beh b),.fn (.func 117) [] [.pt (bO d)]] (B ((ah beh b).any (bS d.par))):=fun b=>mW (.fn oS (.cons (.pt (rJ d)) .nil)) fun x hx=>z9 x (by have:=fH b x hx;omega);refine ab ?_;refine aa (aB (ax ?_));refine aI ?_
 refine aa (cN (fun s=>Ghost prog s ⟨aw [(0,.pt (aM f beh ahd c)),(3,.pt (bO d)),(5,I f.blocks.length),(6,.fn (.func 117) [] [.pt (bO d)])],fun _=>none,1⟩/\∀ i,i<n->kH (ah beh) d.par n i=true) (cG (α:=Nat)
  (fun k=>⟨aw [(0,.pt (aM f beh ahd c)),(3,.pt (bO d)),(5,I f.blocks.length),(6,.fn (.func 117) [] [.pt (bO d)]),(46,ao d.par),(47,I d.par.length),(48,I k)],fun _=>none,1⟩)
  (fun k=>k<=n/\∀ i,i<k->kH (ah beh) d.par n i=true) (fun k=>n - k) 0 (aq eH) ⟨Nat.zero_le _,fun i h=>absurd h (Nat.not_lt_zero _)⟩ ?_) ?_)
 .rintro k ⟨hk,hinv⟩;refine SS ?_;refine aa ⟨_,rfl,fun h=>?_,fun h=>?_⟩
  .have af:k<n:=by
    have:k<d.par.length:=by simpa using h
    omega
   have hx:=sc (par:=d.par) (b:=k) oG;have nh:=nC (beh:=beh) (b:=k) oG;have X:kH (ah beh) d.par n k=false->B false=B ((List.range n).all (kH (ah beh) d.par n)&&(List.range n).all (iO (ah ahd) d.par)):=fun h=>by rw[mz af h,Bool.false_and]
   have qo:kH (ah beh) d.par n k=true->∀ i,i<k+1->kH (ah beh) d.par n i=true:=fun h i hi=>by
    by_cases e:i=k
    .subst e;exact h
    .exact hinv i oG
   have C:kH (ah beh) d.par n k=(bS d.par k||((k==0||(k5 n (pA d.par k)&&(!(bS d.par (pA d.par k))&&ek d.par d.par.length k 0)))&& !((ah beh k).any (bS d.par)))):=rfl;have m7:=M7 k 0 oG;have mW:=M8 k
   have jm:kH (ah beh) d.par n k=true->∀ {env},gU [(0,.pt (aM f beh ahd c)),(3,.pt (bO d)),(5,I f.blocks.length),(6,.fn (.func 117) [] [.pt (bO d)]),(46,ao d.par),(47,I d.par.length),(48,I ((k+1:Nat):Int))] env->pf prog (fun k:Nat=>(⟨aw [(0,.pt (aM f beh ahd c)),(3,.pt (bO d)),(5,I f.blocks.length),(6,.fn (.func 117) [] [.pt (bO d)]),(46,ao d.par),(47,I d.par.length),(48,I k)],fun _=>none,1⟩:St))
    (fun k=>k<=n/\∀ i,i<k->kH (ah beh) d.par n i=true) (fun k=>n - k) k ⟨env,fun _=>none,1⟩:=fun h {env} he=>aJ (k+1) (aq he) ⟨oG,qo h⟩ oG
   generalize kH (ah beh) d.par n k=ok at C X jm;have xk:=z9 (pA d.par k);have zV:=xP (n:=n) (b:=pA d.par k);have lD:=wR (pA d.par k);generalize pA d.par k=p at hx C xk zV lD;generalize ek d.par d.par.length k 0=q3 at m7 C;generalize (ah beh k).any (bS d.par)=q4 at mW C;generalize ah beh k=bk at nh mW;refine ws ?_;refine aQ ?_;refine aa (aB (ai ?_));have J:=z9 k oG;cases ho:bS d.par k with
   |true=>
    rw[ho] at J C;refine ab ?_;refine cl J ?_;refine aa (c6 rfl (fun h=>jK (o9 ?_)) fun h=>oH);refine ab ?_;exact aa (jm C ⟨rfl,rfl,rfl,rfl,rfl,rfl,rfl,trivial⟩)
   |false=>
   rw[ho] at J C;refine ab ?_;refine cl J ?_;refine aa (c6 rfl (fun h=>oH) fun h=>cu (ai ?_));clear J;cases k with
   |zero=>
    have ei:decide ((0:Int)<((0:Nat):Int))=false:=rfl;have J:(false==true&&(!k5 n p)==false)=true->PCall prog 117 [I p,.pt (bO d)] (B false):=fun h=>by simp at h
    refine aQ ?_;refine gc lD ?_;refine aI ?_;refine ud rfl rfl rfl (fun hc=>⟨ak,J hc⟩) ?_;refine aQ ?_;refine gc m7 ?_;refine aN ?_;refine av ?_;refine gc mW ?_;refine SS ?_;cases q4 with
    |true=>
     refine aa (gI (ai ?_));refine SS ?_;exact aa (bq (cz (bl (az rfl (X C)))))
    |false=>
     refine aa (gk (cI ?_));refine ab ?_;exact aa (jm C ⟨rfl,rfl,rfl,rfl,rfl,rfl,rfl,trivial⟩)
   |succ j=>
    have ei:decide ((0:Int)<((j+1:Nat):Int))=true:=by simp
    generalize k5 n p=q1 at lD C zV;cases q1 with
    |false=>
     refine aQ ?_;refine gc lD ?_;refine ab ?_;(iterate 3 refine z fun _ _=>?_);refine ab ?_;(iterate 5 refine z fun _ _=>?_);refine av ?_;(iterate 9 refine z fun _ _=>?_);refine SS ?_;refine aa (gI (ai ?_));refine SS ?_;exact aa (bq (cz (bl (az rfl (X C)))))
    |true=>
    have tg:=zV.1 rfl;have J:=xk oG;generalize bS d.par p=q2 at J C;cases q2 with
    |true=>
     refine aQ ?_;refine gc lD ?_;refine aI ?_;refine gc J ?_;refine ab ?_;(iterate 5 refine z fun _ _=>?_);refine av ?_;(iterate 9 refine z fun _ _=>?_);refine SS ?_;refine aa (gI (ai ?_));refine SS ?_;exact aa (bq (cz (bl (az rfl (X C)))))
    |false=>
    cases q3 with
    |false=>
     refine aQ ?_;refine gc lD ?_;refine aI ?_;refine gc J ?_;refine aQ ?_;refine gc m7 ?_;refine aI ?_;(iterate 9 refine z fun _ _=>?_);refine SS ?_;refine aa (gI (ai ?_));refine SS ?_;exact aa (bq (cz (bl (az rfl (X C)))))
    |true=>
    refine aQ ?_;refine gc lD ?_;refine aI ?_;refine gc J ?_;refine aQ ?_;refine gc m7 ?_;refine aN ?_;refine av ?_;refine gc mW ?_;refine SS ?_;cases q4 with
    |true=>
     refine aa (gI (ai ?_));refine SS ?_;exact aa (bq (cz (bl (az rfl (X C)))))
    |false=>
     refine aa (gk (cI ?_));refine ab ?_;exact aa (jm C ⟨rfl,rfl,rfl,rfl,rfl,rfl,rfl,trivial⟩)
  .have ba:n<=k:=by
    have:¬ k<d.par.length:=by simpa using h
    omega
   exact⟨aq eH,fun i hi=>hinv i oG⟩
 clear hx wR M8;rintro s ⟨fm,hA⟩;rw[show(List.range n).all (kH (ah beh) d.par n)=true from bh.2 fun i hi=>hA i (List.mem_range.1 hi),Bool.true_and];clear hA;refine⟨_,fm,aB (ax ?_)⟩
 have lC:∀ i,i<1->iO (ah ahd) d.par i=true:=fun i h=>by
  have:i=0:=by omega
  subst this;rfl
 refine SS ?_
 refine aa (cN (fun s=>Ghost prog s ⟨aw [],fun _=>none,1⟩/\∀ i,i<n->iO (ah ahd) d.par i=true) (lk (α:=Nat)
  (fun k=>⟨aw [(0,.pt (aM f beh ahd c)),(3,.pt (bO d)),(5,I f.blocks.length),(6,.fn (.func 117) [] [.pt (bO d)]),(9,I k)],fun _=>none,1⟩)
  (fun k=>1<=k/\k<=n/\∀ i,i<k->iO (ah ahd) d.par i=true) (fun k=>n - k) 1 (aq eH) ⟨aU _,oG,lC⟩ ?_) ?_)
 .clear fm;rintro k ⟨fT,hk,hinv⟩;refine av ?_;refine aa ⟨_,rfl,fun h=>?_,fun h=>?_⟩
  .have af:k<n:=by
    have:k<f.blocks.length:=by simpa using h
    omega
   have hx:=sc (par:=d.par) (b:=k) oG;have rh:=nC (beh:=ahd) (b:=k) oG;have X:iO (ah ahd) d.par k=false->B false=B ((List.range n).all (iO (ah ahd) d.par)):=fun h=>by rw[mz af h]
   have qo:iO (ah ahd) d.par k=true->∀ i,i<k+1->iO (ah ahd) d.par i=true:=fun h i hi=>by
    by_cases e:i=k
    .subst e;exact h
    .exact hinv i oG
   have C:iO (ah ahd) d.par k=(bS d.par k||(ah ahd k).all fun a=>bS d.par a||ek d.par d.par.length a (pA d.par k)):=by
    unfold iO;rw[show(k==0)=false by simp;omega];rfl
   have jm:iO (ah ahd) d.par k=true->∀ {env},gU [(0,.pt (aM f beh ahd c)),(3,.pt (bO d)),(5,I f.blocks.length),(6,.fn (.func 117) [] [.pt (bO d)]),(9,I ((k+1:Nat):Int))] env->pf prog (fun k:Nat=>(⟨aw [(0,.pt (aM f beh ahd c)),(3,.pt (bO d)),(5,I f.blocks.length),(6,.fn (.func 117) [] [.pt (bO d)]),(9,I k)],fun _=>none,1⟩:St))
    (fun k=>1<=k/\k<=n/\∀ i,i<k->iO (ah ahd) d.par i=true) (fun k=>n - k) k ⟨env,fun _=>none,1⟩:=fun h {env} he=>aJ (k+1) (aq he) ⟨oG,oG,qo h⟩ oG
   have Qy:=q9 k;have ot:=Hf k;generalize iO (ah ahd) d.par k=ok at C X jm;have m7:=fun a=>M7 a (pA d.par k);generalize pA d.par k=p at hx C m7;generalize ah ahd k=M at rh C Qy ot;refine aB (ai ?_);have J:=z9 k oG;cases ho:bS d.par k with
   |true=>
    rw[ho] at J C;refine ab ?_;refine cl J ?_;refine aa (c6 rfl (fun h=>jK (o9 ?_)) fun h=>oH);refine av ?_;exact aa (jm C ⟨rfl,rfl,rfl,rfl,rfl,trivial⟩)
   |false=>
   rw[ho] at J C;rw[Bool.false_or] at C;refine ab ?_;refine cl J ?_;refine aa (c6 rfl (fun h=>oH) fun h=>cu (ax ?_));clear J;refine aN ?_
   refine aa (cG (α:=Nat)
    (fun i=>⟨aw [(0,.pt (aM f beh ahd c)),(3,.pt (bO d)),(5,I f.blocks.length),(6,.fn (.func 117) [] [.pt (bO d)]),(9,I k),(102,ao M),(103,I M.length),(104,I i)],fun _=>none,1⟩)
    (fun i=>i<=M.length/\∀ j a,j<i->M[j]? =some a->(bS d.par a||ek d.par d.par.length a p)=true) (fun i=>M.length - i) 0 (aq eH) ⟨Nat.zero_le _,fun j a h=>absurd h (Nat.not_lt_zero _)⟩ ?_)
   rintro i ⟨hi,bc⟩;refine SS ?_;refine aa ⟨_,rfl,fun h=>?_,fun h=>?_⟩
   .have fg:i<M.length:=by simpa using h
    obtain⟨a,ha⟩:∃ a,M[i]? =some a:=⟨_,aK fg⟩
    have eX:=Qy a (bJ ha);have J:=z9 a oG;have m7:=m7 a oG
    have sI:(bS d.par a||ek d.par d.par.length a p)=true->∀ j b,j<i+1->M[j]? =some b->(bS d.par b||ek d.par d.par.length b p)=true:=fun hy1 j b hj hb=>by
     by_cases e:j=i
     .subst e;rw[ha] at hb;cases hb;exact hy1
     .exact bc j b oG hb
    have bK:(bS d.par a||ek d.par d.par.length a p)=false->ok=false:=fun h=>by
     rw[C,List.all_eq_false];exact⟨a,bJ ha,by rw[h];simp⟩
    generalize bS d.par a=q1 at J sI bK;generalize ek d.par d.par.length a p=q2 at m7 sI bK;refine ws ?_;refine av ?_;refine aa (fK Tc ?_);cases q1 with
    |true=>
     refine ab ?_;refine cl J ?_;refine ab ?_;(iterate 10 refine z fun _ _=>?_);refine SS ?_;refine bE bP (gk (cI ?_));refine ab ?_;exact aa (aJ (i+1) (aq eH) ⟨oG,sI rfl⟩ oG)
    |false=>
    refine ab ?_;refine cl J ?_;refine cy ?_;refine ab ?_;refine gc m7 ?_;refine ab ?_;cases q2 with
    |true=>
     refine bE bP (gk (cI ?_));refine ab ?_;exact aa (aJ (i+1) (aq eH) ⟨oG,sI rfl⟩ oG)
    |false=>
     refine bE bP (gI (ai ?_));refine SS ?_;exact aa (bq (cz (cz (bl (az rfl (X (bK rfl)))))))
   .have ba:¬ i<M.length:=by simpa using h
    show AOps _ _ _ _ _ _ _ _ _;refine av ?_;refine aa (jm ?_ ⟨rfl,rfl,rfl,rfl,rfl,trivial⟩);rw[C,bh];intro a ha;obtain⟨j,hj⟩:=cU ha;exact bc j a (by have:=(bj.1 hj).1;omega) hj
  .have ba:n<=k:=by
    have:¬ k<f.blocks.length:=by simpa using h
    omega
   exact⟨eN (l:=[]) trivial,fun i hi=>hinv i oG⟩
 clear fm;rintro s ⟨hg,ha⟩;refine⟨_,hg,ai ?_⟩;refine SS ?_;refine aa (az (d:=B true) rfl ?_);rw[show(List.range n).all (iO (ah ahd) d.par)=true from bh.2 fun i hi=>ha i (List.mem_range.1 hi)]
end
theorem Vo{f:aC}{d:c9}(C:bW f≠0):PCall prog 18 [.agg (aX f),.agg (bO d)] (la f d):=by
 have J:=Bk C;refine bd Ga (.cons (.agg (jL f)) (.cons (.agg (rJ d)) .nil)) (JS f d) ?_;rw[la,if_neg C];generalize bW f=e at J C;have fR:(e !=0)=true:=by simpa using C
 rw[OH];refine ax ?_;refine aI ?_;refine aa (aR (cE [(0,aX f,26),(1,bO d,30)] eH (l:=[(2,.pt (aX f)),(3,.pt (bO d))]) eH) (ai ?_));refine SS ?_;refine cl J ?_;refine aQ ?_;refine aa (aB (ai ?_));refine ab ?_;refine aa (fA ?_);refine aB (ai ?_);refine av ?_;exact aa (c8 (iH rfl rfl rfl))
set_option maxHeartbeats 1000000 in
theorem Wh{f:aC}{d:c9}(J:bW f=0)(hd:wy d):PCall prog 18 [.agg (aX f),.agg (bO d)] (la f d):=by
 have dP:=we J
 have hf:k6 f=true:=by
  unfold bW at J;split at J
  .assumption
  .cases J
 have bz:=mN hf;have hg:=qH bz;obtain⟨n,hn⟩:∃ n,f.blocks.length=n:=⟨_,rfl⟩
 have iX:n<=1200:=hn▸bz.oD;have iW:0<n:=hn▸bz.pos;have rj:nP f=aM f (aO f) (bu f.blocks) (dk (b8 (a7 f) f.blocks.length (-1))):=rfl;have bV:(aO f).length=n:=by rw[<- hn];simp[aO]
 have ng:(bu f.blocks).length=n:=by rw[<- hn];simp[bu]
 have fH:∀ b,∀ t∈ah (aO f) b,0<=t/\t.toNat<n:=fun b t ht=>hn▸hg.to b t ht
 have q9:∀ b,∀ t∈ah (bu f.blocks) b,0<=t/\t.toNat<n:=fun b t ht=>by
  have:=(hg.ni b t).1 ht;exact⟨this.1,hn▸this.2.1⟩
 refine bd Ga (.cons (.agg (jL f)) (.cons (.agg (rJ d)) .nil)) (JS f d) ?_;rw[la,if_pos J];have uT:=uT (f:=f) (beh:=aO f) (ahd:=bu f.blocks) (c:=dk (b8 (a7 f) f.blocks.length (-1))) (.sl (.map fun _=>.s _)) rfl (d:=d) hn iW oG bV ng fH q9 (D6 bz);have Gb:=fun l fr to=>uS (f:=f) (beh:=aO f) (ahd:=bu f.blocks) (c:=dk (b8 (a7 f) f.blocks.length (-1))) (.sl (.map fun _=>.s _)) rfl hn oG bV (l:=l) (fr:=fr) (to:=to);rw[hn];have ig:qf (a7 f) (cY f) n d=(lN (ah (aO f)) (ah (bu f.blocks)) n d&&(List.range n).all (jF (ah (aO f)) n d)):=rfl;rw[ig];clear ig
 have Fx:lN (ah (aO f)) (ah (bu f.blocks)) n d=true->lenP d n=true:=fun h=>by
  rw[lN,aG] at h;exact h.1
 rw[rj] at dP;generalize lN (ah (aO f)) (ah (bu f.blocks)) n d=rt at uT Fx ⊢;generalize dk (b8 (a7 f) f.blocks.length (-1))=cnt at dP uT Gb;have fR:((0:Int) !=0)=false:=rfl;rw[OH];refine ax ?_;refine aI ?_;refine aa (aR (cE [(0,aX f,26),(1,bO d,30)] eH (l:=[(2,.pt (aX f)),(3,.pt (bO d))]) eH) (ai ?_));refine SS ?_;refine cl dP ?_;refine aQ ?_;refine aa (aB (ai ?_));refine ab ?_;refine aa (ll (cu (aB (ai ?_))));cases rt with
 |false=>
  refine ab ?_;refine cl uT ?_;refine SS ?_;refine aa (fA ?_);refine aB (ai ?_);refine ab ?_;exact aa (c8 (iH rfl rfl rfl))
 |true=>
 have hlen:=rK.1 (Fx rfl);clear Fx;rw[Bool.true_and];refine ab ?_;refine cl uT ?_;refine SS ?_;refine aa (ll (cu (aB (ax ?_))));clear dP uT;refine aI ?_
 refine aa (cN (fun s=>(∃ nx,Ghost prog s ⟨aw [],fun _=>none,nx⟩)/\∀ i,i<n->jF (ah (aO f)) n d i=true) (cG (α:=Nat)
  (fun k=>⟨aw [(3,.pt (bO d)),(6,.pt (aM f (aO f) (bu f.blocks) cnt)),(27,ao d.par),(28,I d.par.length),(29,I k)],fun _=>none,2⟩)
  (fun k=>k<=n/\∀ i,i<k->jF (ah (aO f)) n d i=true) (fun k=>n - k) 0 (aq eH) ⟨Nat.zero_le _,fun i h=>absurd h (Nat.not_lt_zero _)⟩ ?_) ?_)
 .rintro k ⟨hk,hinv⟩;refine SS ?_;refine aa ⟨_,rfl,fun h=>?_,fun h=>?_⟩
  .have af:k<n:=by
    have:k<d.par.length:=by simpa using h
    omega
   have hx:=sc (par:=d.par) (b:=k) oG;have hx1:d.one[k]? =some (d.one.getD k []):=by rw[aV,aK oG];rfl
   have hx2:d.two[k]? =some (d.two.getD k []):=by rw[aV,aK oG];rfl
   have sY:=JT (b:=k) hd.o;have hs2:=JT (b:=k) hd.t;have X:jF (ah (aO f)) n d k=false->D.tup [B false,I 0]=.tup [B ((List.range n).all (jF (ah (aO f)) n d)),I 0]:=fun h=>by rw[mz af h]
   have qo:jF (ah (aO f)) n d k=true->∀ i,i<k+1->jF (ah (aO f)) n d i=true:=fun h i hi=>by
    by_cases e:i=k
    .subst e;exact h
    .exact hinv i oG
   have C:jF (ah (aO f)) n d k=if pA d.par k= -1 then(d.one.getD k []).length+(d.two.getD k []).length==0 else j4 (ah (aO f)) n (d.one.getD k []) (pA d.par k) k&&(j4 (ah (aO f)) n (d.two.getD k []) (pA d.par k) k&&wg (d.one.getD k []) (d.two.getD k [])):=rfl
   have jm:jF (ah (aO f)) n d k=true->∀ {env},gU [(3,.pt (bO d)),(6,.pt (aM f (aO f) (bu f.blocks) cnt)),(27,ao d.par),(28,I d.par.length),(29,I ((k+1:Nat):Int))] env->pf prog (fun k:Nat=>(⟨aw [(3,.pt (bO d)),(6,.pt (aM f (aO f) (bu f.blocks) cnt)),(27,ao d.par),(28,I d.par.length),(29,I k)],fun _=>none,2⟩:St))
    (fun k=>k<=n/\∀ i,i<k->jF (ah (aO f)) n d i=true) (fun k=>n - k) k ⟨env,fun _=>none,2⟩:=fun h {env} he=>aJ (k+1) (aq he) ⟨oG,qo h⟩ oG
   generalize jF (ah (aO f)) n d k=ok at C X jm;generalize pA d.par k=p at hx C;generalize d.one.getD k []=one at hx1 sY C;generalize d.two.getD k []=two at hx2 hs2 C;refine ws ?_;refine aQ ?_;refine aa (fK Ui ?_);refine aN ?_;refine av ?_;refine bE bP (aB (ai ?_));by_cases hp:p= -1
   .have gL:(p== -1)=true:=by simp[hp]
    rw[if_pos hp] at C;refine ab ?_;refine aa (fA (aB (aB (ai ?_))));by_cases hz:one.length+two.length=0
    .have ei:decide ((0:Int)<(one.length:Int)+(two.length:Int))=false:=decide_eq_false oG;refine bC ?_;refine aa (ll (cu (jK (o9 ?_))));refine ab ?_;exact aa (jm (by rw[C];simpa using hz) ⟨rfl,rfl,rfl,rfl,rfl,trivial⟩)
    .have ei:decide ((0:Int)<(one.length:Int)+(two.length:Int))=true:=decide_eq_true oG;refine bC ?_;refine aa (fA ?_);refine aB (ai ?_);refine ab ?_;exact aa (c8 (cz (bl (iH rfl rfl (X (by rw[C];simpa using hz))))))
   have gL:(p== -1)=false:=by simp[hp]
   rw[if_neg hp] at C;refine ab ?_;refine aa (ll (cu (aB (ai ?_))));have uS:=Gb one p k;have OI:=Gb two p k
   have uU:j4 (ah (aO f)) n one p k=true->2<=one.length:=fun h=>by
    unfold j4 pv at h;simp only[aG,decide_eq_true_eq] at h;exact h.2.1
   generalize j4 (ah (aO f)) n one p k=q1 at uS C uU;generalize j4 (ah (aO f)) n two p k=q2 at OI C;cases q1 with
   |false=>
    refine aI ?_;refine cl uS ?_;refine ab ?_;(iterate 6 refine z fun _ _=>?_);refine SS ?_;refine aa (fA ?_);refine aB (ai ?_);refine ab ?_;exact aa (c8 (cz (bl (iH rfl rfl (X C)))))
   |true=>
   have uU:=uU rfl;refine aI ?_;refine cl uS ?_;refine bC ?_;have uS:=OI;refine gc uS ?_;refine ab ?_;cases q2 with
   |false=>
    refine aa (fA ?_);refine aB (ai ?_);refine ab ?_;exact aa (c8 (cz (bl (iH rfl rfl (X C)))))
   |true=>
   rw[Bool.true_and,Bool.true_and] at C;refine aa (ll (cu (ax ?_)));have oc:((one.length:Nat):Int) - 1=((one.length - 1:Nat):Int)/\ -9223372036854775808<=((one.length - 1:Nat):Int)/\((one.length - 1:Nat):Int)<=9223372036854775807:=by omega
   have Qz:((one.map I).drop ((1:Int).toNat*1)).take ((((one.length - 1:Nat):Int) - 1).toNat*1)=((one.drop 1).take (one.length - 2)).map I:=by
    rw[show(1:Int).toNat*1=1 by rfl,show(((one.length - 1:Nat):Int) - 1).toNat*1=one.length - 2 by omega, <- List.map_drop,List.map_take]
   have j9:(((one.length - 1:Nat):Int) - 1).toNat=((one.drop 1).take (one.length - 2)).length:=by rw[Kv];omega
   refine aI ?_;refine au (Bg (es':=((one.drop 1).take (one.length - 2)).map I) rfl CF c3 rfl rfl Qz) bF ⟨B7,oG,oG,oG⟩ ?_;rw[j9];clear Qz j9 oc;have QA:=fun {i:Nat} (h:i<one.length - 2)=>Vn h;have j9:=Kv (one:=one);have oq:wg one two=(List.range (one.length - 2)).all fun i=> !(gM two (one.getD (i+1) 0)):=rfl;generalize (one.drop 1).take (one.length - 2)=M at QA j9 ⊢;refine ab ?_
   refine aa (cG (α:=Nat)
    (fun i=>⟨aw [(3,.pt (bO d)),(6,.pt (aM f (aO f) (bu f.blocks) cnt)),(27,ao d.par),(28,I d.par.length),(29,I k),(11,ao two),(70,ao M),(71,I M.length),(72,I i)],fun _=>none,2⟩)
    (fun i=>i<=M.length/\∀ j,j<i->gM two (one.getD (j+1) 0)=false) (fun i=>M.length - i) 0 (aq eH) ⟨Nat.zero_le _,fun j h=>absurd h (Nat.not_lt_zero _)⟩ ?_)
   rintro i ⟨hi,bc⟩;refine SS ?_;refine aa ⟨_,rfl,fun h=>?_,fun h=>?_⟩
   .have fg:i<M.length:=by simpa using h
    have hm:=QA (show i<one.length - 2 by omega)
    have sI:gM two (one.getD (i+1) 0)=false->∀ j,j<i+1->gM two (one.getD (j+1) 0)=false:=fun hy j hj=>by
     by_cases e:j=i
     .subst e;exact hy
     .exact bc j oG
    have bK:gM two (one.getD (i+1) 0)=true->ok=false:=fun h=>by
     rw[C,oq,List.all_eq_false];exact⟨i,List.mem_range.2 oG,by rw[h];simp⟩
    generalize one.getD (i+1) 0=x at hm sI bK;have ij:=ij (l:=two) (v:=x);refine ws ?_;refine av ?_;refine er ?_;generalize gM two x=q3 at ij sI bK;refine ab ?_;refine cl ij ?_;cases q3 with
    |true=>
     refine aa (gI (ai ?_));refine ab ?_;exact aa (bq (cz (cz (bl (iH rfl rfl (X (bK rfl)))))))
    |false=>
     refine aa (gk (cI ?_));refine ab ?_;exact aa (aJ (i+1) (aq eH) ⟨oG,sI rfl⟩ oG)
   .have ba:¬ i<M.length:=by simpa using h
    show AOps _ _ _ _ _ _ _ _ _;refine ab ?_;refine aa (jm ?_ ⟨rfl,rfl,rfl,rfl,rfl,trivial⟩);rw[C,oq,bh];intro j hj;rw[bc j (by have:=List.mem_range.1 hj;omega)];rfl
  .have ba:n<=k:=by
    have:¬ k<d.par.length:=by simpa using h
    omega
   exact⟨⟨2,eN (l:=[]) trivial⟩,fun i hi=>hinv i oG⟩
 rintro s ⟨⟨nx,hg⟩,ha⟩;refine⟨_,hg,ai ?_⟩;refine ab ?_;refine aa (iH rfl rfl ?_);rw[show(List.range n).all (jF (ah (aO f)) n d)=true from bh.2 fun i hi=>ha i (List.mem_range.1 hi)];rfl
theorem oE{f:aC}{d:c9}(hd:wy d):PCall prog 18 [.agg (aX f),.agg (bO d)] (la f d):=by
 by_cases h:bW f=0
 .exact Wh h hd
 .exact Vo h
theorem uV{d:c9}:PCall prog 16 [.agg (bO d)] (B (vO d)):=by
 have J:∀ x∈[D.agg (bO d)],Tr x:=.cons (.agg (rJ d)) .nil;refine bd aaw J (Tr.s _) ?_;rw[aax];refine ax ?_;refine ab ?_;refine aa (aR (cE [(0,bO d,30)] eH (l:=[(1,.pt (bO d))]) eH) (aB (ai ?_)));unfold vO;refine aN ?_;refine eW ?_;refine aa (c6 rfl (fun h=>?_) fun h=>cu (aB (ax ?_)))
 .have h:=(QB _ _ _).symm.trans h;rw[h];refine aB (ai ?_);refine SS ?_;exact aa (c8 (az rfl rfl))
 have h3:=(QB _ _ _).symm.trans h;rw[h3]
 have X:¬ (30:Int)<(d.one.length:Int):=by
  simp only[Bool.or_eq_false_iff,decide_eq_false_iff_not] at h3;exact h3.2.1
 have ht:¬ (30:Int)<(d.two.length:Int):=by
  simp only[Bool.or_eq_false_iff,decide_eq_false_iff_not] at h3;exact h3.2.2
 clear h3 h;rw[Bool.not_false,Bool.true_and];refine SS ?_
 refine aa (cN (fun s=>Ghost prog s ⟨aw [(1,.pt (bO d))],fun _=>none,1⟩/\d.one.all mG=true) (lk (α:=Nat)
  (fun k=>⟨aw [(1,.pt (bO d)),(3,I k)],fun _=>none,1⟩)
  (fun k=>k<=d.one.length/\∀ j l,j<k->d.one[j]? =some l->mG l=true) (fun k=>d.one.length - k) 0 (aq eH) ⟨Nat.zero_le _,fun j l h=>absurd h (Nat.not_lt_zero _)⟩ ?_) ?_)
 .rintro k ⟨hk,hinv⟩;refine aQ ?_;refine aa ⟨_,rfl,fun h=>?_,fun h=>?_⟩
  .have af:k<d.one.length:=by simpa using h
   obtain⟨l,hl⟩:∃ l,d.one[k]? =some l:=⟨_,aK af⟩
   refine ws ?_;cases hg:decide ((30:Int)<(l.length:Int)) with
   |true=>
    have ei:=hg;refine eW ?_;refine aa (gI (ai ?_));refine SS ?_;refine aa (bq (cz (bl (az rfl ?_))));rw[List.all_eq_false.2 ⟨l,bJ hl,by unfold mG;rw[hg];simp⟩];rfl
   |false=>
    have ei:=hg;refine eW ?_;refine aa (gk (cI ?_));refine av ?_;refine aa (aJ (k+1) (aq eH) ⟨oG,fun j m hj hm=>?_⟩ oG);by_cases e:j=k
    .subst e;rw[hl] at hm;cases hm;unfold mG;rw[hg];rfl
    .exact hinv j m oG hm
  .have M:¬ k<d.one.length:=by simpa using h
   refine⟨aq eH,bh.2 fun l hl=>?_⟩;obtain⟨j,hj⟩:=cU hl;exact hinv j l (by have:=(bj.1 hj).1;omega) hj
 rintro s ⟨C,ha⟩;rw[ha,Bool.true_and];refine⟨_,C,aB (ax ?_)⟩;refine SS ?_
 refine aa (cN (fun s=>Ghost prog s ⟨aw [],fun _=>none,1⟩/\d.two.all mG=true) (lk (α:=Nat)
  (fun k=>⟨aw [(1,.pt (bO d)),(4,I k)],fun _=>none,1⟩)
  (fun k=>k<=d.two.length/\∀ j l,j<k->d.two[j]? =some l->mG l=true) (fun k=>d.two.length - k) 0 (aq eH) ⟨Nat.zero_le _,fun j l h=>absurd h (Nat.not_lt_zero _)⟩ ?_) ?_)
 .clear C;rintro k ⟨hk,hinv⟩;refine aQ ?_;refine aa ⟨_,rfl,fun h=>?_,fun h=>?_⟩
  .have af:k<d.two.length:=by simpa using h
   obtain⟨l,hl⟩:∃ l,d.two[k]? =some l:=⟨_,aK af⟩
   refine ws ?_;cases hg:decide ((30:Int)<(l.length:Int)) with
   |true=>
    have ei:=hg;refine eW ?_;refine aa (gI (ai ?_));refine SS ?_;refine aa (bq (cz (bl (az rfl ?_))));rw[List.all_eq_false.2 ⟨l,bJ hl,by unfold mG;rw[hg];simp⟩];rfl
   |false=>
    have ei:=hg;refine eW ?_;refine aa (gk (cI ?_));refine av ?_;refine aa (aJ (k+1) (aq eH) ⟨oG,fun j m hj hm=>?_⟩ oG);by_cases e:j=k
    .subst e;rw[hl] at hm;cases hm;unfold mG;rw[hg];rfl
    .exact hinv j m oG hm
  .have M:¬ k<d.two.length:=by simpa using h
   refine⟨eN (l:=[]) trivial,bh.2 fun l hl=>?_⟩;obtain⟨j,hj⟩:=cU hl;exact hinv j l (by have:=(bj.1 hj).1;omega) hj
 clear C;rintro s ⟨hg,ha⟩;refine⟨_,hg,ai ?_⟩;refine SS ?_;refine aa (az (d:=B true) rfl ?_);rw[ha]
end Go.Proofs.Tryz.K
namespace Go.Proofs.Tryz.K
theorem LS{P:Program}{d:Nat}{fs:List Field}{cs:List Value}{G:Nat×Nat->Option (List Lit)}{ts:List (Nat×Nat)}(h:fs.map (fun f=>(f.type,f.offset))=ts)(C:∀ t o,G (t,o)=P.keyLits d t ((cs.drop o).take (P.cellsOf t))):
 fs.mapM (fun f=>P.keyLits d f.type ((cs.drop f.offset).take (P.cellsOf f.type)))=ts.mapM G:=by
 rw[<- h,List.mapM_map];congr 1;funext f;exact(C _ _).symm
theorem kl3(d:Nat){a:Int}(h: -9223372036854775808<=a/\a<=9223372036854775807):prog.keyLits (d+1) 3 [.int .i64 a]=some [.int .i64 a]:=by
 have u3:prog.underlying 3=some (.int .i64):=kr
 have C:(Lit.int .i64 a).wf=true:=by
  have e1:IntKind.i64.min= -9223372036854775808:=kr;have e2:IntKind.i64.max=9223372036854775807:=kr;simp[Lit.wf,e1,e2,h]
 simp only[Program.keyLits,u3,C,and_self,if_true]
theorem kl4(d:Nat)(b:Bool):prog.keyLits (d+1) 4 [.bool b]=some [.bool b]:=by
 have C:prog.underlying 4=some .bool:=kr;simp only[Program.keyLits,C]
theorem Fy:∃ fs:Array Field,prog.underlying 168=some (.struct fs)/\prog.cellsOf 168=2/\fs.all (·.name !="_")=true/\fs.toList.map (fun f=>(f.type,f.offset))=[(3,0),(4,1)]:=
 ⟨match prog.underlying 168 with|some (.struct fs)=>fs|_=> #[],by kernel_rfl,by kernel_rfl,by kernel_rfl,by kernel_rfl⟩
theorem M9:∃ fs:Array Field,prog.underlying 172=some (.struct fs)/\prog.cellsOf 172=4/\fs.all (·.name !="_")=true/\fs.toList.map (fun f=>(f.type,f.offset))=[(168,0),(168,2)]:=
 ⟨match prog.underlying 172 with|some (.struct fs)=>fs|_=> #[],by kernel_rfl,by kernel_rfl,by kernel_rfl,by kernel_rfl⟩
theorem Fz(d:Nat){a:Int}(b:Bool)(h: -9223372036854775808<=a/\a<=9223372036854775807):prog.keyLits (d+2) 168 [.int .i64 a,.bool b]=some [.int .i64 a,.bool b]:=by
 obtain⟨fs,C,hc,hn,hf⟩:=Fy;have c3:prog.cellsOf 3=1:=kr;have c4:prog.cellsOf 4=1:=kr;unfold Program.keyLits;simp only[C];rw[if_pos ⟨by rw[hc];rfl,hn⟩,LS (G:=fun p=>prog.keyLits (d+1) p.1 (([.int .i64 a,.bool b].drop p.2).take (prog.cellsOf p.1))) hf fun _ _=>by dsimp only];simp[c3,c4,kl3 d h,kl4]
theorem XG(d:Nat){a c:Int}(b e:Bool)(h: -9223372036854775808<=a/\a<=9223372036854775807)(h': -9223372036854775808<=c/\c<=9223372036854775807):prog.keyLits (d+3) 172 [.int .i64 a,.bool b,.int .i64 c,.bool e]=some [.int .i64 a,.bool b,.int .i64 c,.bool e]:=by
 obtain⟨fs,C,hc,hn,hf⟩:=M9;obtain⟨_,_,sJ,_,_⟩:=Fy;unfold Program.keyLits;simp only[C];rw[if_pos ⟨by rw[hc];rfl,hn⟩,LS (G:=fun p=>prog.keyLits (d+2) p.1 (([.int .i64 a,.bool b,.int .i64 c,.bool e].drop p.2).take (prog.cellsOf p.1))) hf fun _ _=>by dsimp only];simp[sJ,Fz d _ h,Fz d _ h']
theorem QC:∃ d,prog.types.size+1=d+3:=⟨prog.types.size - 2,by
 have:Nat.ble 2 prog.types.size=true:=kr;have:=aP this
 omega⟩
theorem wz{a:Int}(b:Bool)(h: -9223372036854775808<=a/\a<=9223372036854775807):keyP prog 168 (.agg #[.int .i64 a,.bool b])=true:=by
 obtain⟨fs,C,hc,_,_⟩:=Fy;have hk:prog.keyType 168=true:=kr;obtain⟨d,hd⟩:=QC;simp only[keyP,C,keyOf,hk,Value.formed,hc,hd];have:=Fz (d+1) b h;simp[Value.cells,this]
theorem qp{a c:Int}(b e:Bool)(h: -9223372036854775808<=a/\a<=9223372036854775807)(h': -9223372036854775808<=c/\c<=9223372036854775807):keyP prog 172 (.agg #[.int .i64 a,.bool b,.int .i64 c,.bool e])=true:=by
 obtain⟨fs,C,hc,_,_⟩:=M9;have hk:prog.keyType 172=true:=kr;obtain⟨d,hd⟩:=QC;simp only[keyP,C,keyOf,hk,Value.formed,hc,hd];have:=XG d b e h h';simp[Value.cells,this]
end Go.Proofs.Tryz.K
namespace Go.Argus
def lm(s:ag):Value:=.agg #[.int .i64 s.1,.bool s.2]
def jr(x y:ag):Value:=.agg #[.int .i64 x.1,.bool x.2,.int .i64 y.1,.bool y.2]
def c7(s:ag):List D:=[I s.1,B s.2]
def um(U:List (ag×ag)):List (Value×D):=U.map fun e=>(jr e.1 e.2,B true)
def iA(cm:List (ag×ag)):List (Value×D):=cm.map fun e=>(lm e.1,.agg (c7 e.2))
def ln(l:List ag):List D:=l.flatMap c7
@[simp] theorem Td (s : ag) : (c7 s).length = 2 := rfl
theorem DD:∀ l:List ag,(ln l).length=2*l.length
 |[]=>rfl
 |s::l=>by
  have:=DD l;unfold ln at this ⊢;rw[List.flatMap_cons,List.length_append,this,List.length_cons,Td];omega
theorem Te(l:List ag)(s:ag):ln (l++[s])=ln l++c7 s:=by simp[ln]
theorem JU(s t:ag):veq (lm s) (lm t)=decide (s=t):=by
 obtain⟨a,x⟩:=s;obtain⟨b,y⟩:=t;rw[Bool.eq_iff_iff];simp[lm,veq,veqs,veq1]
theorem Uk(x y C J:ag):veq (jr x y) (jr C J)=decide ((x,y)=(C,J)):=by
 obtain⟨a,b⟩:=x;obtain⟨c,d⟩:=y;obtain⟨a',M⟩:=C;obtain⟨X,d'⟩:=J;rw[Bool.eq_iff_iff];simp[jr,veq,veqs,veq1,and_assoc]
theorem yn{x y:ag}:∀ {U:List (ag×ag)},((x,y)∈U->∃ i,lookD (jr x y) (um U)=some (i,B true)/\(um U).eraseIdx i=um (U.erase (x,y)))/\((x,y)∉U->lookD (jr x y) (um U)=none)
 |[]=>⟨fun h=>by simp at h,fun _=>rfl⟩
 |(a,b)::U=>by
  obtain⟨i1,i2⟩:=yn (x:=x) (y:=y) (U:=U);unfold um at i1 i2 ⊢;simp only[List.map_cons,lookD,Uk];by_cases h:(a,b)=(x,y)
  .rw[if_pos (by simpa using h)];refine⟨fun _=>⟨0,rfl,?_⟩,fun hn=>absurd (by rw[h];simp) hn⟩;rw[h,List.erase_cons_head];rfl
  .rw[if_neg (by simpa using h)];refine⟨fun hm=>?_,fun hn=>?_⟩
   .have hm:(x,y)∈U:=by
     rcases List.mem_cons.1 hm with e|e
     .exact absurd e.symm h
     .exact e
    obtain⟨i,e1,e2⟩:=i1 hm;refine⟨i+1,by rw[e1];rfl,?_⟩;rw[List.eraseIdx_cons_succ,e2,List.erase_cons_tail (by simpa using h)];rfl
   .rw[i2 fun hm=>hn (by simp[hm])];rfl
theorem wi{P:Program}{t:TypeId}(C:zeroD P (melP P t)=B false)(x y:ag)(U:List (ag×ag)):gotD P t false (lookD (jr x y) (um U))=B (cP U x y):=by
 unfold cP;by_cases h:(x,y)∈U
 .obtain⟨i,e,_⟩:=yn.1 h;rw[e,decide_eq_true h];rfl
 .rw[yn.2 h,decide_eq_false h];simp[gotD,C]
theorem Wi{x y:ag}{U:List (ag×ag)}(h:(x,y)∉U):putD (jr x y) (B true) (um U)=um (U++[(x,y)]):=by
 unfold putD;rw[yn.2 h];simp[um]
theorem Wj{x y:ag}{U:List (ag×ag)}(h:(x,y)∈U):delD (jr x y) (um U)=um (U.erase (x,y)):=by
 obtain⟨i,e1,e2⟩:=yn.1 h;unfold delD;rw[e1];exact e2
theorem ye{y:ag}:∀ {cm:List (ag×ag)},(y∈bf cm->∃ i x,lookD (lm y) (iA cm)=some (i,.agg (c7 x))/\(y,x)∈cm)/\(y∉bf cm->lookD (lm y) (iA cm)=none)
 |[]=>⟨fun h=>by simp[bf] at h,fun _=>rfl⟩
 |(a,b)::cm=>by
  obtain⟨i1,i2⟩:=ye (y:=y) (cm:=cm);unfold iA bf at i1 i2 ⊢;simp only[List.map_cons,lookD,JU];by_cases h:a=y
  .rw[if_pos (by simpa using h)];exact⟨fun _=>⟨0,b,rfl,by rw[h];simp⟩,fun hn=>absurd (by rw[h];simp) hn⟩
  .rw[if_neg (by simpa using h)];refine⟨fun hm=>?_,fun hn=>?_⟩
   .have hm:y∈cm.map (·.1):=by
     rcases List.mem_cons.1 hm with e|e
     .exact absurd e.symm h
     .exact e
    obtain⟨i,x,e1,e2⟩:=i1 hm;exact⟨i+1,x,by rw[e1];rfl,by simp[e2]⟩
   .rw[i2 fun hm=>hn (by simp[hm])];rfl
theorem Vp{x y:ag}{cm:List (ag×ag)}(h:y∉bf cm):putD (lm y) (.agg (c7 x)) (iA cm)=iA (cm++[(y,x)]):=by
 unfold putD;rw[ye.2 h];simp[iA]
def eB(s:ag):Prop:=0<=s.1/\s.1<=100000
structure lE(i8 i9 i11 u c q:Nat)(m:Mem)(nx:Nat)(U cm:List (ag×ag))(op:List ag)(off:Nat):Prop where
 h8:m i8=some (.cells [.mp u] 165)
 h9:m i9=some (.cells [.mp c] 166)
 tk:m i11=some (.cells [.rs q off op.length] 169)
 mu:m u=some (.map (um U))
 mc:m c=some (.map (iA cm))
 mq:∃ pre,m q=some (.cells (pre++ln op) 168)/\pre.length=off
 lt:i8<nx/\i9<nx/\i11<nx/\u<nx/\c<nx/\q<nx
 ne:i8≠i9/\i8≠i11/\i8≠c/\i8≠q/\i9≠i11/\i9≠c/\i9≠q/\i11≠c/\i11≠q/\i11≠u/\u≠c/\u≠q/\c≠q/\i8≠u/\i9≠u
 us:∀ e∈U,eB e.1/\eB e.2
 cs:∀ e∈cm,eB e.1/\eB e.2
 ol:op.length<=100000
end Go.Argus
namespace Go.Proofs.Tryz.K
set_option maxRecDepth 10000
theorem fI{s:ag}(h:eB s): -9223372036854775808<=s.1/\s.1<=9223372036854775807:=by
 have:=h.1;have:=h.2;omega
theorem rS{U:List (ag×ag)}(h:∀ e∈U,eB e.1/\eB e.2):(um U).all (fun e=>keyP prog 172 e.1)=true:=by
 refine bh.2 fun x hx=>?_;obtain⟨e,he,rfl⟩:=List.mem_map.1 hx;exact qp _ _ (fI (h e he).1) (fI (h e he).2)
theorem A6{cm:List (ag×ag)}(h:∀ e∈cm,eB e.1/\eB e.2):(iA cm).all (fun e=>keyP prog 168 e.1)=true:=by
 refine bh.2 fun x hx=>?_;obtain⟨e,he,rfl⟩:=List.mem_map.1 hx;exact wz _ (fI (h e he).1)
theorem wA:zeroD prog (melP prog 165)=B false:=kr
theorem XH:zeroD prog (melP prog 166)=.agg (c7 (0,false)):=kr
set_option maxHeartbeats 1000000 in
theorem B8{i8 i9 i11 u c q off:Nat}{m:Mem}{nx:Nat}{U cm:List (ag×ag)}{op:List ag}{x y:ag}(hM:lE i8 i9 i11 u c q m nx U cm op off)(hx:eB x)(hy:eB y)(qP:op.length<100000):
 ACalls prog 129 [.agg (c7 x),.agg (c7 y),.rp i9 0,.rp i8 0,.rp i11 0] m nx (fun d m' nx'=>d=.tup []/\nx<=nx'/\(∀ i,i<nx->i≠i11->i≠c->i≠q->m' i=m i)/\
  if y∉bf cm/\(x,y)∉U then(∃ q',nx<=q'/\lE i8 i9 i11 u c q' m' nx' U (cm++[(y,x)]) (op++[y]) 0) else lE i8 i9 i11 u c q m' nx' U cm op off):=by
 refine tl M' ?_;rw[XI];have⟨h8,h9,tk,mu,mc,⟨pre,mq,mV⟩,⟨l8,l9,l11,lu,lc,lq⟩,⟨n1,n2,n3,n4,n5,n6,n7,n8,n9,n10,n11,n12,n13,n14,n15⟩,us,cs,ol⟩:=hM;have xv:c7 x=[I x.1,B x.2]:=rfl;have tm:c7 y=[I y.1,B y.2]:=rfl
 have uA:∃ x0,gotD prog 166 true (lookD (lm y) (iA cm))=.tup [.agg (c7 x0),B (decide (y∈bf cm))]:=by
  by_cases hk:y∈bf cm
  .obtain⟨i,x0,e,_⟩:=ye.1 hk;exact⟨x0,by rw[e,decide_eq_true hk];rfl⟩
  .refine⟨(0,false),?_⟩;rw[ye.2 hk,decide_eq_false hk];simp only[gotD,if_true,XH]
 obtain⟨x0,uA⟩:=uA;refine ws ?_;refine ab ?_;refine aa (ax ?_);have aj:=h9;refine au (eD rfl (al oG (al oG aj)) rfl V.h) ak (eE V.h V.h rfl) ?_;refine SS ?_;refine au (rI (es:=iA cm) (key:=lm y) rfl (al oG (al oG mc)) rfl wB uA) bF ⟨wC,wz _ (fI hy),A6 cs⟩ ?_;refine bC ?_;generalize hk:decide (y∈bf cm)=yk;refine aa (mO (l:=[(2,.rp i9 0),(3,.rp i8 0),(4,.rp i11 0),(5,.rp nx 0),(6,.rp (nx+1) 0),(8,B yk)]) ⟨rfl,rfl,rfl,rfl,rfl,rfl,trivial⟩ fun C J=>?_);have g8:C i8=some (.cells [.mp u] 165):=(cg J h8)
 have g9:C i9=some (.cells [.mp c] 166):=(cg J h9)
 have Hg:C i11=some (.cells [.rs q off op.length] 169):=(cg J tk)
 have gu:C u=some (.map (um U)):=(cg J mu)
 have gc:C c=some (.map (iA cm)):=(cg J mc)
 have gq:C q=some (.cells (pre++ln op) 168):=(cg J mq)
 have gx:C nx=some (.cells (c7 x) 168):=(cg J mq)
 have gy:C (nx+1)=some (.cells (c7 y) 168):=(cg J mq)
 have gf:∀ i,i<nx->C i=m i:=fun i hi=>by
  rw[J]
  repeat (first|exact rfl|refine al oG ?_)
 clear J uA h8 h9 tk mu mc mq aj
 have uy:yk=true\/cP U x y=true->¬ (y∉bf cm/\(x,y)∉U):=fun h=>by
  rintro⟨h1,h2⟩;rcases h with h|h
  .rw[h] at hk;exact h1 (by simpa using hk)
  .unfold cP at h;exact h2 (by simpa using h)
 have bK:(yk=true\/cP U x y=true)->(D.tup []:D)=.tup []/\nx<=nx+3/\(∀ i,i<nx->i≠i11->i≠c->i≠q->C i=m i)/\(if y∉bf cm/\(x,y)∉U then(∃ q',nx<=q'/\lE i8 i9 i11 u c q' C (nx+3) U (cm++[(y,x)]) (op++[y]) 0) else lE i8 i9 i11 u c q C (nx+3) U cm op off):=fun h=>by
  refine⟨rfl,oG,fun i hi _ _ _=>gf i hi,?_⟩;rw[if_neg (uy h)];exact⟨g8,g9,Hg,gu,gc,⟨pre,gq,mV⟩,oG,oG,us,cs,ol⟩
 refine ws ?_;cases yk with
 |true=>
  refine av ?_;(iterate 6 refine z fun _ _=>?_);refine SS ?_;refine aa (gk (cI (lQ (bK (.inl rfl)))))
 |false=>
 have aj:=g8;have bX:=gx;have dZ:=gy;refine aI ?_;refine aT rfl rfl (df rfl bX V.h V.h rfl) (fun hc=>⟨ak,(dg V.h V.h (by first|(simp;done)|omega|exact aP rfl))⟩) ?_;refine aT rfl rfl (df rfl dZ V.h V.h rfl) (fun hc=>⟨ak,(dg V.h V.h (by first|(simp;done)|omega|exact aP rfl))⟩) ?_;refine SS ?_;refine aT rfl rfl (rI (es:=um U) (key:=jr x y) rfl gu rfl qq (wi wA x y U)) (fun hc=>⟨(by repeat' (first|exact trivial|exact hc|exact rfl|refine And.intro ?_ ?_)),⟨qt,qp _ _ (fI hx) (fI hy),rS us⟩⟩) ?_;generalize hu:cP U x y=ux at uy bK;refine ab ?_;cases ux with
 |true=>
  refine aa (gk (cI (lQ (bK (.inr rfl)))))
 |false=>
 have CI:y∉bf cm:=by simpa using hk
 have hxu:(x,y)∉U:=by unfold cP at hu;simpa using hu
 clear bK;refine aa (gI (ax ?_));have aj:=g9;have bX:=gy;have dZ:=gx;refine av ?_;refine bB (Bx (es:=iA cm) (key:=lm y) (v:=.agg (c7 x)) rfl gc rfl rfl wB) bF ⟨wC,wz _ (fI hy),A6 cs⟩ ?_;rw[Vp CI];refine aa (mO (l:=[(2,.rp i9 0),(3,.rp i8 0),(4,.rp i11 0),(6,.rp (nx+1) 0)]) ⟨rfl,rfl,rfl,rfl,trivial⟩ fun M X=>kB ?_);have e8:M i8=some (.cells [.mp u] 165):=(cg X g8)
 have e9:M i9=some (.cells [.mp c] 166):=(cg X g9)
 have tq:M i11=some (.cells [.rs q off op.length] 169):=(cg X Hg)
 have eu:M u=some (.map (um U)):=(cg X gu)
 have ec:M c=some (.map (iA (cm++[(y,x)]))):=(cg X gc)
 have eq:M q=some (.cells (pre++ln op) 168):=(cg X gq)
 have ey:M (nx+1)=some (.cells (c7 y) 168):=(cg X gy)
 have ef:∀ i,i<nx->i≠c->M i=m i:=fun i hi hc=>by
  rw[X];refine(al ?_ rfl).trans (gf i hi);exact hc
 clear X g8 g9 Hg gu gc gq gx gy gf aj bX dZ;have aj:=tq;have bX:=ey;have dZ:=eq;have hlp:=DD op;refine ab ?_;refine OJ ?_;refine sH (r5 (sz:=2) (cs:=pre++ln op) rfl (al oG eq) rfl B9 sJ (rH (news:=c7 y) (up_same _ _ _) rfl) rfl) bF ⟨BP,rfl,(show 0+1*2<=2 by decide),oC,(by rw[List.length_append];omega),(by unfold maxLen;omega),(by rw[OK];omega),oP⟩ ?_;have aj:up (up (up M (nx+3) (some (.cells (c7 y) 168))) q none) (nx+3+1) (some (.cells ((pre++ln op).drop off++c7 y) 168)) i11=some (.cells [.rs q off op.length] 169):=al oG (al oG (al oG tq));refine bB (dC (d:=.rs _ _ _) (cs':=[_]) rfl rfl aj rfl rfl) ak (cF V.h V.h (by first|(simp;done)|exact⟨rfl,aP rfl⟩|(simp;omega)) rfl) ?_;refine aa (lQ ⟨rfl,oM,fun i hi h1 h2 h3=>?_,?_⟩)
 .dsimp only;exact al h1 (al oG (al h3 (al oG (ef i hi h2))))
 .rw[if_pos ⟨CI,hxu⟩];refine⟨nx+3+1,oG,⟨(l0 e8),(l0 e9),?_,(l0 eu),(l0 ec),⟨[],?_,rfl⟩,oM,oG,us,fun e he=>?_,?_⟩⟩
  .dsimp only;rw[up_same,List.length_append];rfl
  .dsimp only;rw[up_ne _ _ oG,up_same,Te,List.nil_append, <- mV,List.drop_left]
  .rcases List.mem_append.1 he with g|g
   .exact cs e g
   .simp only[List.mem_singleton] at g;subst g;exact⟨hy,hx⟩
  .rw[List.length_append,List.length_singleton];omega
end Go.Proofs.Tryz.K
end
