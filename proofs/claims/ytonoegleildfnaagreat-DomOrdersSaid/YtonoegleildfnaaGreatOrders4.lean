/- Part 4 of the proof; the last part says what is proved. -/
import Derived.Test.YtonoegleildfnaaGreatOrders3
section
open Go Go.Abs Go.Proofs Go.Argus
namespace Go.Argus
theorem z'{beh:Nat->List Int}{w:Int}{n:Nat}(hb:∀ b,∀ c∈beh b,0<=c/\c.toNat<n):∀ (k:Nat),(∀ (s:List Bool×List Int) b,s.1.length=n->b<n->s.1.getD b false=false->(cR beh w k s b).2.length+(cR beh w k s b).1.count false<=s.2.length+s.1.count false)/\
 (∀ l,(∀ c∈l,0<=c/\c.toNat<n)->∀ s:List Bool×List Int,s.1.length=n->(cb beh w k s l).2.length+(cb beh w k s l).1.count false<=s.2.length+s.1.count false):=by
 have key:∀ k,(∀ (s:List Bool×List Int) b,s.1.length=n->b<n->s.1.getD b false=false->(cR beh w k s b).2.length+(cR beh w k s b).1.count false<=s.2.length+s.1.count false)->
  (∀ l,(∀ c∈l,0<=c/\c.toNat<n)->∀ s:List Bool×List Int,s.1.length=n->(cb beh w k s l).2.length+(cb beh w k s l).1.count false<=s.2.length+s.1.count false):=fun k h l=>by
  induction l with
  |nil=>exact fun _ s _=>bE _
  |cons c l ih=>
   intro hl s C;have hc:=hl c oS;rw[G9];split
   .rename_i M;have a:=ih (fun c h=>hl c (by simp[h])) (cR beh w k s c.toNat) (((wV k).1 s c.toNat).1.trans C);have b:=h s c.toNat C hc.2 M.1;omega
   .exact ih (fun c h=>hl c (by simp[h])) s C
 intro k
 induction k with
 |zero=>exact⟨fun s b _ _ _=>bE _,key 0 fun s b _ _ _=>bE _⟩
 |succ k ih=>
  have h:∀ (s:List Bool×List Int) b,s.1.length=n->b<n->s.1.getD b false=false->(cR beh w (k+1) s b).2.length+(cR beh w (k+1) s b).1.count false<=s.2.length+s.1.count false:=fun s b C U J=>by
   rw[rN];have a:=ih.2 (beh b) (hb b) (s.1.set b true,s.2) (by simpa using C);have b:=pg (pj J oG);simp only[List.length_append,List.length_singleton] at a ⊢;omega
  exact⟨h,key (k+1) h⟩
end Go.Argus
namespace Go.Proofs.Tryz.K
set_option maxRecDepth 10000
structure A5(i3 i4 i5 r n:Nat)(fv:D)(m:Mem)(nx q:Nat)(s:List Bool×List Int):Prop where
 h3:i3<nx
 h4:i4<nx
 h5:i5<nx
 hr:r<nx
 m3:m i3=some (.cells [.rs r 0 n] 52)
 m5:m i5=some (.cells [fv] 128)
 mr:m r=some (.cells (s.1.map B) 4)
 m4:m i4=some (.cells [jc q (s.2.map I)] 27)
 mq:s.2≠[]->q<nx/\q≠i3/\q≠i4/\q≠i5/\q≠r/\m q=some (.cells (s.2.map I) 3)
section
variable{f:aA}{beh ahd:List (List Int)}{c:D}(hc:Tr c)(iL:c.one=true)
include hc iL
theorem yw{n:Nat}(hn:beh.length=n)(iC:∀ b,∀ t∈bw beh b,0<=t/\t.toNat<n)(cV:∀ b,(bw beh b).length<=100000){i3 i4 i5 r:Nat}(nL:i3≠i4)(h35:i3≠i5)(NQ:i3≠r)(FN:i4≠i5)(BE:i4≠r)(ze:i5≠r):
 ∀ (k:Nat) (m:Mem) (nx q:Nat) (C:List Bool×List Int) (b:Nat),
 A5 i3 i4 i5 r n (.fn (.func 149) [] [.rp i3 0,.pt [.pt (eS f beh ahd c)],.rp i5 0,.rp i4 0]) m nx q C->C.1.length=n->b<n->C.1.count false<=k->C.1.getD b false=false->C.2.length+C.1.count false<=100000->
 ACalls prog 149 [I b,.rp i3 0,.pt [.pt (eS f beh ahd c)],.rp i5 0,.rp i4 0] m nx (fun d m' nx'=>d=.tup []/\∃ q',A5 i3 i4 i5 r n (.fn (.func 149) [] [.rp i3 0,.pt [.pt (eS f beh ahd c)],.rp i5 0,.rp i4 0]) m' nx' q' (cR (bw beh) (-1) k C b))
 |0,m,nx,q,C,b,J,eg,hb,tO,mI,hlen=>by
  have _:=hc;have _:=iL;have:=pg (pj mI oG);omega
 |k+1,m,nx,q,C,b,J,eg,hb,tO,mI,hlen=>by
  have ww:=HU (beh:=beh) (b:=b) oG;have cB:=iC b;have gF:=cV b;have mB:=pg (pj mI oG);have IH:=yw hn iC cV nL h35 NQ FN BE ze k;have jz:=(z' (w:= -1) iC k).2;refine sO Lt ?_;rw[Vj];have av:=J.m3;have eO:=J.mr;have⟨p3,p4,p5,pr,_,_,_,_,pq⟩:=J;rw[rN];generalize bw beh b=l at ww cB gF;refine ws ?_;refine ap ?_;refine MH ?_;refine ab (aB (au ?_));refine aQ ?_
  refine ab (bZ (fun s=>∃ m nx q,Ghost prog s ⟨ax [(0,I b),(4,.rp i4 0)],m,nx⟩/\A5 i3 i4 i5 r n (.fn (.func 149) [] [.rp i3 0,.pt [.pt (eS f beh ahd c)],.rp i5 0,.rp i4 0]) m nx q (cb (bw beh) (-1) k (C.1.set b true,C.2) l)) (eN (α:=Nat×Nat×Mem×Nat)
   (fun j=>⟨ax [(0,I b),(1,.rp i3 0),(3,.rp i5 0),(4,.rp i4 0),(17,aC l),(18,I l.length),(19,I j.1)],j.2.2.1,j.2.2.2⟩)
   (fun j=>j.1<=l.length/\A5 i3 i4 i5 r n (.fn (.func 149) [] [.rp i3 0,.pt [.pt (eS f beh ahd c)],.rp i5 0,.rp i4 0]) j.2.2.1 j.2.2.2 j.2.1 (cb (bw beh) (-1) k (C.1.set b true,C.2) (l.take j.1))) (fun j=>l.length - j.1) (0,q,_,nx)
   (ao eH) ⟨Nat.zero_le _,?_⟩ ?_) ?_)
  .dsimp only;refine⟨p3,p4,p5,pr,aw NQ J.m3,aw ze J.m5,?_,aw BE J.m4,fun h=>?_⟩
   .rw[List.take_zero];show up m r _ r=some (.cells ((C.1.set b true).map B) 4);rw[List.map_set];exact up_same _ _ _
   .obtain⟨a1,a2,a3,a4,a5,a6⟩:=pq h;exact⟨a1,a2,a3,a4,a5,aw a5 a6⟩
  .clear J av eO p3 p4 p5 pr pq;rintro⟨j,q,m,nx⟩ ⟨hj,J⟩;dsimp only at hj J ⊢;obtain⟨cl,cc⟩:=(wV (beh:=bw beh) (w:= -1) k).2 (l.take j) (C.1.set b true,C.2);have X:=jz (l.take j) (fun c h=>cB c (List.mem_of_mem_take h)) (C.1.set b true,C.2) (by simpa using eg)
   have bL:∀ t,l[j]? =some t->cb (bw beh) (-1) k (C.1.set b true,C.2) (l.take (j+1))=if pS (cb (bw beh) (-1) k (C.1.set b true,C.2) (l.take j)).1 t=false/\t≠ -1 then cR (bw beh) (-1) k (cb (bw beh) (-1) k (C.1.set b true,C.2) (l.take j)) t.toNat else cb (bw beh) (-1) k (C.1.set b true,C.2) (l.take j):=fun t ht=>by
    rw[List.take_add_one,ht];exact zH (bw beh) (-1) k (C.1.set b true,C.2) (l.take j) t
   have fC:j=l.length->cb (bw beh) (-1) k (C.1.set b true,C.2) (l.take j)=cb (bw beh) (-1) k (C.1.set b true,C.2) l:=fun e=>by rw[e,List.take_length]
   generalize cb (bw beh) (-1) k (C.1.set b true,C.2) (l.take j)=s at cl cc bL fC J X;simp only[List.length_set] at cl cc X;have av:=J.m3;have eO:=J.mr;have lY:=J.m5;refine SS ?_;refine ab ⟨_,rfl,fun h=>?_,fun h=>?_⟩
   .have al:j<l.length:=by simpa using h
    have hx:l[j]? =some l[j]:=aL al;have mD:=cB _ (bR al);generalize l[j]=t at hx mD;have U:=bL t hx;obtain⟨M,rfl⟩:=eC mD.1;have yZ:M<n:=mD.2;have hv:s.1[M]? =some s.1[M]:=aL oG;have lD:s.1.getD M false=s.1[M]:=by simp[bD,hv]
    have oW:pS s.1 (M:Int)=s.1[M]:=lD;generalize s.1[M]=v at hv lD oW;have kd:=fZ (f:=B) hv;refine ws ?_;refine ap ?_;refine er ?_;refine aR ?_;refine ab (an rfl (fun hp=>?_) fun hp=>?_)
    .have kP:v=false:=by simpa using hp
     have U:=U.trans (if_pos ⟨oW.trans kP,oG⟩);refine fJ ?_;refine aD (gd rfl lY rfl V.h) ak (gf V.h V.h rfl) ?_;refine SS ?_;refine lh (IH m nx q s M J (cl.trans eg) yZ oG (lD.trans kP) oG) rfl cY fun d m' nx' hp=>?_;obtain⟨rfl,q',hp⟩:=hp;refine ab ?_;refine af ?_;refine ab (aP (j+1,q',m',nx') (ao eH) ⟨oM,?_⟩ oM);dsimp only;rw[U];exact hp
    .have kP:v=true:=by simpa using hp
     have U:=U.trans (if_neg fun hh=>by rw[oW,kP] at hh;exact absurd hh.1 oS);refine cD ?_;refine af ?_;refine ab (aP (j+1,q,m,nx) (ao eH) ⟨oM,?_⟩ oM);dsimp only;rw[U];exact J
   .have a9:¬ j<l.length:=by simpa using h
    rw[<- fC oG];exact⟨m,nx,q,ao eH,J⟩
  .clear J av eO p3 p4 p5 pr pq;rintro s ⟨m,nx,q,hg,J⟩;have X:=jz l cB (C.1.set b true,C.2) (by simpa using eg);generalize cb (bw beh) (-1) k (C.1.set b true,C.2) l=u at J X ⊢;obtain⟨u1,u2⟩:=u;have⟨p3,p4,p5,pr,m3,m5,mr,m4,pq⟩:=J;dsimp only at mr m4 pq X ⊢;refine⟨_,hg,fw ?_⟩;by_cases hz:u2=[]
   .subst hz;have av:m i4=some (.cells [.z] 27):=m4;refine aN ?_;refine Mp ?_;refine ab (pG ⟨rfl,nx+1,?_⟩);dsimp only;refine⟨oG,oG,oG,oG,?_,?_,?_,?_,fun _=>⟨oG,oG,oG,oG,oG,?_⟩⟩
    .exact aw nL (aw oG (aw oG m3))
    .exact aw (Ne.symm FN) (aw oG (aw oG m5))
    .exact aw (Ne.symm BE) (aw oG (aw oG mr))
    .exact(up_same _ _ _).trans rfl
    .exact aw oG ((up_same _ _ _).trans rfl)
   .have aI:u2.map I≠[]:=by simpa using hz
    obtain⟨q1,q2,q3,q4,q5,q6⟩:=pq hz;have av:m i4=some (.cells [.rs q 0 u2.length] 27):=by rw[m4,nq aI,List.length_map]
    have eO:=q6;have qg:(u2.map I).length=u2.length:=by simp
    refine aN ?_;refine Mq ?_;refine ab (pG ⟨rfl,nx+1,?_⟩);dsimp only;refine⟨oG,oG,oG,oG,?_,?_,?_,?_,fun _=>⟨oG,oG,oG,oG,oG,?_⟩⟩
    .exact aw nL (aw oG (aw (Ne.symm q2) (aw oG m3)))
    .exact aw (Ne.symm FN) (aw oG (aw (Ne.symm q4) (aw oG m5)))
    .exact aw (Ne.symm BE) (aw oG (aw (Ne.symm q5) (aw oG mr)))
    .refine(up_same _ _ _).trans ?_;rw[List.map_append,nq oS];simp
    .refine aw oG ((up_same _ _ _).trans ?_);rw[List.map_append];rfl
theorem zg{n:Nat}(hn:beh.length=n)(sy:f.blocks.length=n)(mE:0<n)(lB:n<=100000)(iC:∀ b,∀ t∈bw beh b,0<=t/\t.toNat<n)(cV:∀ b,(bw beh b).length<=100000):
 OCall prog 85 [.pt (eS f beh ahd c)] ((ky (bw beh) n).map I) (ky (bw beh) n).length 3:=by
 refine uy MK (.cons (HT hc) .nil) (.map fun _=>.s _) ?_;rw[YQ];refine au ?_;refine fW (Ah (d:=.pt _) rfl rfl) ak rfl ?_;refine SS ?_;refine ab (aJ (bj [(0,[.pt (eS f beh ahd c)],79)] eH (l:=[(1,.pt [.pt (eS f beh ahd c)])]) eH) (au ?_));have du:((f.blocks.length:Nat):Int).toNat=n:=sy;refine bH ?_;refine MJ ?_;refine ab (aJ (aH (l:=[(1,.pt [.pt (eS f beh ahd c)]),(3,.rp 2 0)]) (ml:=[(1,.cells ((List.replicate n false).map B) 4),(2,.cells [.rs 1 0 n] 52)]) eH ⟨?_,?_,trivial⟩) (aj ?_))
 .exact congrArg (fun c=>some (Row.cells c 4)) ((congrArg (fun k=>replD k [B false]) du).trans (qu n false))
 .exact congrArg (fun k=>some (Row.cells [D.rs 1 0 k] 52)) du
 refine SS ?_;refine er ?_;refine SS ?_;refine er ?_;refine SS ?_;refine cE (gl (d:=.fn _ _ _) (cs':=[_]) rfl rfl rfl rfl rfl) ak (dx V.h V.h (by first|(simp;done)|exact⟨rfl,bn rfl⟩|(simp;omega)) rfl) ?_;refine ab (au ?_);have yw:=yw (f:=f) (beh:=beh) (ahd:=ahd) hc iL hn iC cV (i3:=2) (i4:=3) (i5:=4) (r:=1) oC oC oC oC oC oC n;have hz:(List.replicate n false).getD 0 false=false:=by rw[bD,List.getElem?_replicate];split<;>rfl
 have X:=(z' (w:= -1) iC n).1 (List.replicate n false,[]) 0 oS mE hz
 have C:(cR (bw beh) (-1) n (List.replicate n false,[]) 0).2≠[]:=by
  obtain⟨j,rfl⟩:∃ j,n=j+1:=⟨n - 1,oG⟩
  exact TI
 have hR:ky (bw beh) n=(cR (bw beh) (-1) n (List.replicate n false,[]) 0).2.reverse:=rfl;refine SS ?_;refine lh (yw _ _ 0 (List.replicate n false,[]) 0 ⟨oC,oC,oC,oC,rfl,rfl,rfl,rfl,fun h=>absurd rfl h⟩ oS mE oS hz oP) rfl cY fun d m' nx' hp=>?_;obtain⟨rfl,J,U⟩:=hp;have m4:=U.m4;obtain⟨q1,q2,q3,q4,q5,M⟩:=U.mq C;rw[hR];clear U hR yw;generalize (cR (bw beh) (-1) n (List.replicate n false,[]) 0)=u at X C m4 M ⊢;obtain⟨u1,u2⟩:=u;dsimp only at X C m4 M ⊢;have yf:u2.map I≠[]:=by simpa using C
 have av:m' 3=some (.cells [.rs J 0 u2.length] 27):=by rw[m4,nq yf,List.length_map]
 have eO:=M;have gF:u2.length<=100000:=by simp at X;omega
 refine ab (aJ (ao (l:=[(4,.rp 3 0)]) eH) (aj ?_));refine SS ?_;refine lh (k84 q1 M rfl gF) rfl cY fun d m2 dt hp=>?_;obtain⟨rfl,rfl,rfl⟩:=hp;refine er ?_;have av:up m' J (some (.cells (u2.reverse.map I) 3)) 3=some (.cells [.rs J 0 u2.length] 27):=aw (Ne.symm q3) av;refine af ?_;refine ab (aq rfl ⟨J,?_,up_same _ _ _⟩);rw[List.length_reverse];rfl
end
end Go.Proofs.Tryz.K
namespace Go.Abs
section
variable{P:Program}{m:Mem}{nx:Nat}
theorem OB{f:FuncId}{rds:List Nat}{args args' es:List D}{n:Nat}{t:TypeId}(fN:Sns P rds m args args')(hc:OCall P f args' es n t)(gT:∀ d∈es,d.scal=true):
 ACalls P f args m nx (fun d m' nx'=>d=.rs nx 0 n/\m'=up m nx (some (.cells es t))/\nx'=nx+1):=by
 refine⟨hc.1,fun F β w vs hm hβ hR=>?_⟩;have hn:=hβ nx (bE _)
 obtain⟨h1,h2⟩:=sns_R (P:=P) (F:=F) (β:=β) (w:=w) (fun i hi r hr=>by
  obtain⟨p,hp,av⟩:=hm.row i r hr
  exact⟨p,hp,av,fun b hb=>hm.nf i p b hp hb⟩) fN
 refine(hc.2.2 F w vs (fun b hb=>hm.fb b hb) ⟨by rw[hR.1,h1],fun k d v hd hv=>?_⟩).mono ?_
 .have al:k<args.length:=by rw[h1];exact(bA.1 hd).1
  exact h2 k args[k] d (by simp[al]) hd v (hR.2 k args[k] v (by simp[al]) hv)
 rintro e w' ⟨v,p,he,DG,C,av,hv,hk⟩;have ia:=hm.kept hk
 have hs:Step β w (up β nx (some p)) w':=by
  refine⟨hk.1,fun b hb hf=>⟨hk.2.1 b hb,fun i q hq=>?_⟩,fun i q hq=>.inl ?_,hk.2.2⟩
  .by_cases hi:i=nx
   .subst hi;rw[up_same] at hq;cases hq;intro e;have:=(C b e).1;omega
   .rw[up_ne _ _ hi] at hq;exact hf i q hq
  .rw[up_ne _ _ (fun e=>by rw[e,hn] at hq;cases hq)];exact hq
 have M:∀ i q b,up β nx (some p) i=some q->q.blk=some b->(i=nx/\q=p)\/(i≠nx/\β i=some q):=fun i q b hq _=>by
  by_cases hi:i=nx
  .subst hi;rw[up_same] at hq;cases hq;exact .inl ⟨rfl,rfl⟩
  .rw[up_ne _ _ hi] at hq;exact .inr ⟨hi,hq⟩
 have DH:RowR P F (up β nx (some p)) w' (.cells es t) p:=by
  cases av with
  |nil _=>exact .nil _
  |cells _ _ b o room sz c h1 h2 h3 h4 h5=>
   refine .cells es t b o room sz c h1 h2 h3 h4 fun k d hd=>?_;obtain⟨u,mn,mo,mu⟩:=h5 k d hd;exact⟨u,mn,scal_R (gT d (cg hd)) mo,mu⟩
 refine⟨v,.rs nx 0 n,up m nx (some (.cells es t)),nx+1,up β nx (some p),he,⟨rfl,rfl,rfl⟩,?_,fun i hi=>by rw[up_ne _ _ oG];exact hβ i oG,?_,hs,Nat.le_succ _,fun i hi hb=>by rw[up_ne _ _ oG];exact hb⟩
 .refine⟨fun i r hi=>?_,fun i j q X b hq fF e J=>?_,fun i q b hq e=>?_,fun i q b hq e=>?_,ia.fb⟩
  .by_cases U:i=nx
   .subst U;rw[up_same] at hi;cases hi;exact⟨p,up_same _ _ _,DH⟩
   .rw[up_ne _ _ U] at hi;obtain⟨q,hq,E2⟩:=hm.row i r hi;exact⟨q,by rw[up_ne _ _ U];exact hq,E2.step hs fun b hb=>hk.2.1 b (hm.lt i q b hq hb)⟩
  .rcases M i q b hq e with⟨rfl,rfl⟩|⟨hi,h1⟩<;>rcases M j X b fF J with⟨rfl,rfl⟩|⟨hj,h2⟩
   .rfl
   .have:=(C b e).1;have:=hm.lt j X b h2 J;omega
   .have:=(C b J).1;have:=hm.lt i q b h1 e;omega
   .exact hm.inj i j q X b h1 h2 e J
  .rcases M i q b hq e with⟨_,rfl⟩|⟨_,h1⟩
   .exact(C b e).2
   .exact ia.lt i q b h1 e
  .rcases M i q b hq e with⟨_,rfl⟩|⟨_,h1⟩
   .intro hF;have:=hm.fb b hF;have:=(C b e).1;omega
   .exact hm.nf i q b h1 e
 .cases hv with
  |rsd _ _ _ _ h _=>rw[up_same] at h;cases h;exact absurd rfl DG
  |rsn _ a h=>rw[up_same] at h;cases h;exact .rsn nx a (up_same _ _ _)
  |rsz _ _ a b o len room sz h=>rw[up_same] at h;cases h;exact .rsz nx 0 a b o len room sz (up_same _ _ _)
  |rs _ _ _ cap b o len room sz h h1 h2 h3 h4=>rw[up_same] at h;cases h;exact .rs nx 0 n cap b o len room sz (up_same _ _ _) h1 h2 h3 h4
end
section
variable{P:Program}{env:Env}{m:Mem}{nx:Nat}
theorem zW{f:FuncId}{args:List D}{dp:D->Mem->Nat->Prop}{i:Nat}{r:Row}(hm:m i=some r)(he:enterOk P f=true)(h:i<nx->ACalls P f args m nx dp):ACalls P f args m nx dp:=⟨he,fun F β w vs C J hR=>by
 refine(h ?_).2 F β w vs C J hR;rcases Nat.lt_or_ge i nx with g|g
 .exact g
 .obtain⟨p,hp,_⟩:=C.row i r hm
  rw[J i g] at hp;cases hp⟩
theorem AJ{Y:YSpec}{ops:Array Oper}{dr:Bool}{cf:List (Nat×Nat)}{Q:Exit->St->Prop}{rest:List Oper}{tr:Tra}{op:Op}{ty:TypeId}{pos:String}{after:Array Edge}{f:FuncId}{args:List D}{r:D}{ups:List (Nat×Option Row)}{rds:List Nat}{d:Option Nat}
 (h:∀ C J,(∀ i∈rds,m i≠none->C i=m i)->ACalls P f args C J fun r' m' nx'=>r'=r/\m'=upds C ups/\nx'=J) (M:∀ i∈ups.map (·.1),i∈rds/\m i≠none) (hc:callD (rho env op) op=some (f,args)) (ha:fL env op.operands.toList)
 (K:AOps P Y ops dr cf Q rest (St.put ⟨env,upds m ups,nx⟩ d r) (tr++[(rds,ups.map (·.1))])):AOps P Y ops dr cf Q (⟨d,op,ty,pos,after,none⟩::rest) ⟨env,m,nx⟩ tr:=wT hc ha (.inr (.inr (.inr (.inr (.inl ⟨r,ups,rds,h,M,K⟩)))))
theorem zG{i:Nat}{cs:List D}{e:TypeId}{l:List (Nat×D)}(hm:m i=some (.cells cs e))(hl:jM l fun t=>sub (fz0 i cs (P.cellsOf e)) (env t)):
 Ghost P ⟨env,m,nx⟩ ⟨ax l,fun j=>if j=i then none else(m j).map (Row.sub (fz0 i cs (P.cellsOf e))),nx⟩:=
 (Ghost.freeze env m nx i cs e hm).trans (Ghost.forget _ _ _ _ (lO hl))
theorem fh.fz{j n q sz:Nat}{e et:TypeId}{ρ:Nat->Nat}{L:Nat->List D}{cs:List D}(h:fh m nx j n e et ρ L)(J:∀ i,sr (L i))(hq:j≠q)(C:∀ i,i<n->L i≠[]->ρ i≠q):
 fh (fun p=>if p=q then none else(m p).map (Row.sub (fz0 q cs sz))) nx j n e et ρ L:=by
 refine⟨?_,h.oX,fun i hi hl=>?_,h.lt,h.ne,h.inj⟩
 .rw[if_neg hq,h.row];refine congrArg some (jP.cells (X:=fun p=>p=q) (fun d hd=>?_) q cs sz rfl);obtain⟨i,hi,rfl⟩:=List.mem_map.1 hd;by_cases hl:L i=[]
  .rw[hl];exact .z
  .rw[nq hl];exact .rs (C i (by simpa using hi) hl)
 .rw[if_neg (C i hi hl),h.qT i hi hl];exact congrArg some (jP.Mx (X:=fun p=>p=q) (J i) q cs sz rfl)
end
end Go.Abs
namespace Go.Argus
open Go.Proofs.Tryz.K (nextR)
theorem zK{f:aA}{x:End}(h:gI f x=true):cX x=cx x:=by
 unfold gI at h;rw[aM] at h;obtain⟨h,hb⟩:=h;have hb:=Iq hb;obtain⟨kind,a,b,to,eD,name,ins,args,az,b7⟩:=x;simp only[eI] at h hb;by_cases h1:kind=1
 .subst h1;simp only[Int.reduceEq,if_false,if_true] at hb;have J:az=[]:=List.length_eq_zero_iff.1 hb.2.2.2.2.2.2.2;have C:b7= -1:=hb.2.2.2.2.2.1;subst J C;simp[cX,ep,j8,cG,cx,fG,aE]
 by_cases h2:kind=2
 .subst h2;simp only[Int.reduceEq,if_false,if_true] at hb;have J:az=[]:=List.length_eq_zero_iff.1 hb.2.2.2.2.2.2.2;have C:b7= -1:=hb.2.2.2.2.2.1;subst J C;simp[cX,ep,j8,cG,cx,fG,aE]
 by_cases h3:kind=3
 .subst h3;simp only[Int.reduceEq,if_false,if_true] at hb;have J:az=[]:=List.length_eq_zero_iff.1 hb.2.2.2.2.2.2.2;have C:b7= -1:=hb.2.2.2.2.2.1;subst J C;simp[cX,ep,j8,cG,cx,fG,aE]
 by_cases h4:kind=4
 .subst h4;simp only[Int.reduceEq,if_false,if_true] at hb;have J:az=[]:=List.length_eq_zero_iff.1 hb.2.2.2.2.2.2.2;have C:b7= -1:=hb.2.2.2.2.2.1;subst J C;simp[cX,ep,j8,cG,cx,fG,aE]
 by_cases h5:kind=5
 .subst h5;by_cases C:0<=b7<;>simp[cX,ep,j8,cG,cx,fG,aE,C]
 by_cases M:kind=6
 .subst M;by_cases C:0<=b7<;>simp[cX,ep,j8,cG,cx,fG,aE,C]
 by_cases U:kind=7
 .subst U;simp only[Int.reduceEq,if_false,if_true] at hb;have J:az=[]:=List.length_eq_zero_iff.1 hb.2.2.2.2.2.2.2;have C:b7= -1:=hb.2.2.2.2.2.1;subst J C;simp[cX,ep,j8,cG,cx,fG,aE]
 by_cases X:kind=8
 .subst X;by_cases C:0<=b7<;>simp[cX,ep,j8,cG,cx,fG,aE,C]
 by_cases h9:kind=9
 .subst h9;simp only[Int.reduceEq,if_false,if_true] at hb;have J:az=[]:=List.length_eq_zero_iff.1 hb.2.2.2.2.2.2.2;have C:b7= -1:=hb.2.2.2.2.2.1;subst J C;simp[cX,ep,j8,cG,cx,fG,aE]
 .simp only[h1,h2,h3,h4,h5,M,U,X,h9,if_false] at h;cases h
theorem OM{f:aA}(h:iu f=true):∀ x∈f.blocks,cX x.fin=cx x.fin:=by
 unfold iu at h;simp only[aM] at h;obtain⟨J,M,_,C,hR⟩:=h;intro x hx;obtain⟨k,hk⟩:=dh hx;have al:k<f.blocks.length:=(bA.1 hk).1;have:=br.1 C k (by simpa using al);rw[gH,getD_some hk] at this;simp only[aM,Bool.not_eq_true',decide_eq_false_iff_not] at this;exact zK this.1
def cF(f:aA):List (List Int):=f.blocks.map fun x=>nextR x.fin
theorem zX{f:aA}{k:Nat}{x:bu}(h:f.blocks[k]? =some x):bw (cF f) k=nextR x.fin:=by
 unfold bw cF;simp[bD,h]
theorem Cp{f:aA}{k:Nat}(h:f.blocks.length<=k):bw (cF f) k=[]:=by
 unfold bw cF;rw[bD,List.getElem?_eq_none (by simpa using h)];rfl
def fS(f:aA)(a b c:D):List D:=[S f.name,B f.iter,I f.args,U8 f.result,io f.ag,io f.aK,mY f.signals,ew f.blocks,a,b,c]
def gB(f:aA)(n k:Nat):List D:=(List.range n).map fun i=>if i<k then aC (bw (cF f) i) else .z
@[simp] theorem abU (f : aA) (n k : Nat) : (gB f n k).length = n := by simp [gB]
theorem RJ{f:aA}{n k:Nat}{x:D}(hk:k<n):(gB f n k).set k x=(List.range n).map fun i=>if i=k then x else if i<k then aC (bw (cF f) i) else .z:=by
 unfold gB;rw[G6];exact List.map_congr_left fun i _=>rfl
def vd(f:aA):List D:=eS f (cF f) (dI f.blocks) (c6 (dH (bw (cF f)) f.blocks.length (-1)))
end Go.Argus
namespace Go.Proofs.Tryz.K
set_option maxRecDepth 10000
theorem beh_in{f:aA}(h:pI f):∀ b,∀ t∈bw (cF f) b,0<=t/\t.toNat<f.blocks.length:=fun b t ht=>by
 cases hx:f.blocks[b]? with
 |none=>rw[Cp (List.getElem?_eq_none_iff.1 hx)] at ht;simp at ht
 |some x=>
  rw[zX hx] at ht;have:=(h.ends x (cg hx)).to t (zv.1 ht);omega
theorem Is{f:aA}(h:pI f):∀ b,(bw (cF f) b).length<=100000:=fun b=>by
 cases hx:f.blocks[b]? with
 |none=>rw[Cp (List.getElem?_eq_none_iff.1 hx)];simp
 |some x=>
  rw[zX hx];have:=rM x.fin;have:=(h.ends x (cg hx)).wh;omega
set_option maxHeartbeats 2000000 in
theorem DB{f:aA}(cM:dV f=0):PCall prog 51 [.agg (ay f)] (.tup [.pt (vd f),I 0]):=by
 have sU:=sU (f:=f);rw[cM] at sU
 have hf:iu f=true:=by
  unfold dV at cM;split at cM
  .assumption
  .cases cM
 have bS:=Al hf;have vW:=OM hf;obtain⟨n,hn⟩:∃ n,f.blocks.length=n:=⟨_,rfl⟩
 have lB:n<=1200:=hn▸bS.qh;have lF:∀ b,∀ t∈bw (cF f) b,0<=t/\t.toNat<n:=hn▸beh_in bS;have cV:=Is bS;refine a7 EO (.cons (.agg (fq f)) .nil) (.tup (.cons (.pt (Cn (.sl (.map fun _=>.s _)))) (.cons (.s _) .nil))) ?_;rw[ML];refine au ?_;refine ap ?_;refine ab (aJ (bj [(0,ay f,26)] eH (l:=[(1,.pt (ay f))]) eH) (aB (aj ?_)));refine SS ?_;refine cl sU ?_;refine SS ?_;refine ab (aB (aj ?_));refine af ?_;refine ab (cy rfl (fun h=>oH) fun h=>cu (aj ?_));refine aN ?_;refine ab (mR RK ?_);refine dF ?_;refine aD (kn (v:=.rp _ _) rfl) ak trivial ?_;have du:((f.blocks.length:Nat):Int).toNat=n:=hn;refine bf bg (aJ (aH (l:=[(1,.pt (ay f)),(6,.rp 3 0)]) (ml:=[(1,.cells (List.replicate n .z) 27),(2,.cells (List.replicate n .z) 27),(3,.cells (fS f (.rs 1 0 n) (.rs 2 0 n) .z) 89)]) eH ⟨?_,?_,?_,trivial⟩) (aB (au ?_)))
 .exact congrArg (fun c=>some (Row.cells c 27)) ((congrArg (fun k=>replD k [D.z]) du).trans (Aa n))
 .exact congrArg (fun c=>some (Row.cells c 27)) ((congrArg (fun k=>replD k [D.z]) du).trans (Aa n))
 .exact congrArg (fun k=>some (Row.cells (fS f (.rs 1 0 k) (.rs 2 0 k) .z) 89)) du
 refine aN ?_
 have nG:gB f n 0=List.replicate n D.z:=by
  unfold gB;simp only[Nat.not_lt_zero,if_false];rw[List.map_const',List.length_range]
 refine ab (bZ (fun s=>∃ m nx ρ,Ghost prog s ⟨ax [(6,.rp 3 0)],m,nx⟩/\4<=nx/\m 1=some (.cells (gB f n n) 27)/\m 3=some (.cells (fS f (.rs 1 0 n) (.rs 2 0 n) .z) 89)/\fh m nx 2 n 27 3 ρ (fun i=>(bh f.blocks n i).map I)/\(∀ i,i<n->(bh f.blocks n i).map I≠[]->ρ i≠1/\ρ i≠3)) (eN (α:=Nat×Mem×Nat)
  (fun k=>⟨ax [(1,.pt (ay f)),(6,.rp 3 0),(28,ew f.blocks),(29,I n),(30,I k.1)],k.2.1,k.2.2⟩)
  (fun k=>k.1<=n/\4<=k.2.2/\k.2.1 1=some (.cells (gB f n k.1) 27)/\k.2.1 3=some (.cells (fS f (.rs 1 0 n) (.rs 2 0 n) .z) 89)/\(∃ ρ,fh k.2.1 k.2.2 2 n 27 3 ρ (fun i=>(bh f.blocks k.1 i).map I)/\(∀ i,i<n->(bh f.blocks k.1 i).map I≠[]->ρ i≠1/\ρ i≠3))/\∀ i,(bh f.blocks k.1 i).length<=12*k.1) (fun k=>n - k.1)
  (0,bc [(1,.cells (List.replicate n .z) 27),(2,.cells (List.replicate n .z) 27),(3,.cells (fS f (.rs 1 0 n) (.rs 2 0 n) .z) 89)],4)
  (ao ⟨rfl,rfl,rfl,congrArg (fun k:Nat=>I k) hn,rfl,trivial⟩) ⟨Nat.zero_le _,bE _,by rw[nG];rfl,rfl,⟨fun _=>0,CH (show 2<4 by decide) rfl,fun _ _ h=>absurd rfl h⟩,fun _=>bE _⟩ ?_) ?_)
 .rintro⟨k,m,nx⟩ ⟨hk,gE,U,m3,⟨ρ,C,J⟩,hlen⟩;dsimp only at hk gE U m3 C J hlen ⊢;refine SS ?_;refine ab ⟨_,rfl,fun h=>?_,fun h=>?_⟩
  .have al:k<n:=by simpa using h
   have hx:f.blocks[k]? =some f.blocks[k]:=aL oG;have bT:f.blocks[k]∈f.blocks:=bR _;generalize f.blocks[k]=x at hx bT
   have bL:bh f.blocks (k+1)=(nextR x.fin).foldl (cO k) (bh f.blocks k):=by
    rw[bh,List.range_succ,List.foldl_append];show lV f.blocks _ k=_;rw[lV,hx];rfl
   have ij:=zX hx;have cB:=lF k;have By:=(bS.ends x bT).wh;have hle:=wF x.fin;have NR:=vW x bT;have v9:=rM x.fin;have sN:nextR x.fin=iq (eA (cX x.fin)):=by rw[NR];rfl
   have yv:=yv (x:=x.fin) oG;rw[ij] at cB;generalize bh f.blocks k=L0 at C hlen J bL;refine ws ?_;refine bF ?_;refine er ?_;refine SS ?_;refine aD (dQ (vs:=aW _) rfl (up_same _ _ _) V.h V.h rfl) ak (dR V.h V.h (by first|(simp;done)|omega|exact bn rfl)) ?_;refine xV yv rfl cY ?_;refine SS ?_;generalize cX x.fin=d at hle sN yv;refine ab (au ?_);refine SS ?_;refine lh (ry (i:=nx+1) (l:=d) oG (up_same _ _ _) rfl oG) rfl cY fun r m' nx' hp=>?_;obtain⟨rfl,rfl,rfl⟩:=hp;have eg:(eA d).length=d.length:=Ci d;have c8:(iq (eA d)).length=(nextR x.fin).length:=by rw[sN]
   refine ab (aJ (ki (l:=[(1,.pt (ay f)),(6,.rp 3 0),(7,I k),(9,.rs (nx+1) 0 d.length),(28,ew f.blocks),(29,I n),(30,I k)]) (m':=up (up m nx (some (.cells (dS x) 72))) (nx+1) (some (.cells ((eA d).map I) 3))) eH (by rw[lj,lj])) (mR Qv ?_));have av:up (up m nx (some (.cells (dS x) 72))) (nx+1) (some (.cells ((eA d).map I) 3)) 3=some (.cells (fS f (.rs 1 0 n) (.rs 2 0 n) .z) 89):=aw oG (aw oG m3);have eO:up (up m nx (some (.cells (dS x) 72))) (nx+1) (some (.cells ((eA d).map I) 3)) 1=some (.cells (gB f n k) 27):=aw oG (aw oG U);have lY:up (up m nx (some (.cells (dS x) 72))) (nx+1) (some (.cells ((eA d).map I) 3)) (nx+1)=some (.cells ((eA d).map I) 3):=up_same _ _ _;have wq:=C.lt;have C:=C.ext (m':=up (up m nx (some (.cells (dS x) 72))) (nx+1) (some (.cells ((eA d).map I) 3))) (nx':=nx+2) (fun q hq=>aw oG (aw oG rfl)) oG;generalize up (up m nx (some (.cells (dS x) 72))) (nx+1) (some (.cells ((eA d).map I) 3))=M at av eO lY C;clear U m3;refine bF ?_;refine AJ (r:=.rs (nx+1) 0 (iq (eA d)).length) (ups:=[(nx+1,some (.cells (qE (eA d) d.length) 3))]) (rds:=[nx+1]) (fun m2 dt iI=>?_) ?_ rfl cY ?_
   .have e:=iI (nx+1) oS (by rw[lY];simp);rw[lY] at e;refine zW e vD.he fun tS=>(ym tS e eg oG).mono ?_;rintro r m' nx' ⟨h1,h2,h3⟩;exact⟨h2,h3,h1⟩
   .intro i hi;simp at hi;subst hi;exact⟨oS,by rw[lY];simp⟩
   have nH:qE (eA d) d.length=(nextR x.fin).map I++List.replicate (d.length - (nextR x.fin).length) (I 0):=by rw[qE,sN]
   show AOps _ _ _ _ _ _ _ ⟨up _ 46 _,up M (nx+1) (some (.cells (qE (eA d) d.length) 3)),_⟩ _;rw[<- sN,nH]
   have de:(nextR x.fin).length<=d.length:=by
    rw[sN];have:(iq (eA d)).length<=(eA d).length:=Dd _;omega
   clear nH c8 sN lY;generalize nextR x.fin=l at cB v9 bL ij de;refine aD (kY rfl rfl (aw oG eO) V.h V.h) ak ⟨V.h,oG⟩ ?_;refine cE (gl (d:=.rs _ _ _) (cs':=_) rfl rfl (aw oG eO) rfl rfl) ak (dx V.h V.h (by first|(simp;done)|exact⟨rfl,bn rfl⟩|(simp;omega)) rfl) ?_;refine bf (by simp[apartT];omega) ?_;have e1:(gB f n k).set k (.rs (nx+1) 0 l.length)=(List.range n).map fun i=>if i=k then .rs (nx+1) 0 l.length else if i<k then aC (bw (cF f) i) else .z:=RJ al
   rw[e1];refine aJ (zG (i:=nx+1) (e:=3) (cs:=l.map I++List.replicate (d.length - l.length) (I 0)) (l:=[(1,.pt (ay f)),(6,.rp 3 0),(7,I k),(28,ew f.blocks),(29,I n),(30,I k)]) (aw oG (up_same _ _ _)) ⟨rfl,zY oG,rfl,rfl,rfl,rfl,trivial⟩) (au ?_)
   have N1:(fun j=>if j=nx+1 then none else(up (up M (nx+1) (some (.cells (l.map I++List.replicate (d.length - l.length) (I 0)) 3))) 1 (some (.cells ((List.range n).map fun i=>if i=k then .rs (nx+1) 0 l.length else if i<k then aC (bw (cF f) i) else .z) 27)) j).map (Row.sub (fz0 (nx+1) (l.map I++List.replicate (d.length - l.length) (I 0)) (prog.cellsOf 3)))) 1=some (.cells (gB f n (k+1)) 27):=by
    dsimp only;rw[if_neg oG,up_same];show some (Row.cells (List.map _ (List.map _ _)) 27)=_;rw[List.map_map,gB];refine congrArg (fun c=>some (Row.cells c 27)) (List.map_congr_left fun i _=>?_);simp only[Function.comp_apply];by_cases NS:i=k
    .subst NS;rw[if_pos rfl,if_pos oG,ij,c3,vp];simp[aC]
    .rw[if_neg NS];by_cases h2:i<k
     .rw[if_pos h2,if_pos oG];rfl
     .rw[if_neg h2,if_neg oG];rfl
   have N3:(fun j=>if j=nx+1 then none else(up (up M (nx+1) (some (.cells (l.map I++List.replicate (d.length - l.length) (I 0)) 3))) 1 (some (.cells ((List.range n).map fun i=>if i=k then .rs (nx+1) 0 l.length else if i<k then aC (bw (cF f) i) else .z) 27)) j).map (Row.sub (fz0 (nx+1) (l.map I++List.replicate (d.length - l.length) (I 0)) (prog.cellsOf 3)))) 3=some (.cells (fS f (.rs 1 0 n) (.rs 2 0 n) .z) 89):=by
    dsimp only;rw[if_neg oG,up_ne _ _ oG,up_ne _ _ oG,av];refine congrArg some (jP.cells (X:=fun p=>p=nx+1) (fun d hd=>?_) _ _ _ rfl);simp only[fS,List.mem_cons,List.not_mem_nil,or_false] at hd;rcases hd with rfl|rfl|rfl|rfl|rfl|rfl|rfl|rfl|rfl|rfl|rfl
    .exact .s _
    .exact .s _
    .exact .s _
    .exact .s _
    .exact .sl _ _
    .exact .sl _ _
    .exact .sl _ _
    .exact .sl _ _
    .exact .rs oG
    .exact .rs oG
    .exact .z
   have NJ:fh (fun j=>if j=nx+1 then none else(up (up M (nx+1) (some (.cells (l.map I++List.replicate (d.length - l.length) (I 0)) 3))) 1 (some (.cells ((List.range n).map fun i=>if i=k then .rs (nx+1) 0 l.length else if i<k then aC (bw (cF f) i) else .z) 27)) j).map (Row.sub (fz0 (nx+1) (l.map I++List.replicate (d.length - l.length) (I 0)) (prog.cellsOf 3)))) (nx+2) 2 n 27 3 ρ (fun i=>(L0 i).map I):=by
    refine fh.fz ⟨?_,C.oX,fun i hi hl=>?_,C.lt,C.ne,C.inj⟩ (fun _=>.map) oG fun i hi hl=>by have:=wq i hi hl;omega
    .exact aw oG (aw oG C.row)
    .have:=wq i hi hl;exact aw (J i hi hl).1 (aw oG (C.qT i hi hl))
   clear av eO C e1;generalize (fun j=>if j=nx+1 then none else(up (up M (nx+1) (some (.cells (l.map I++List.replicate (d.length - l.length) (I 0)) 3))) 1 (some (.cells ((List.range n).map fun i=>if i=k then .rs (nx+1) 0 l.length else if i<k then aC (bw (cF f) i) else .z) 27)) j).map (Row.sub (fz0 (nx+1) (l.map I++List.replicate (d.length - l.length) (I 0)) (prog.cellsOf 3))))=m at N1 N3 NJ ⊢;have av:=N3;have eO:=N1
   have kd:(gB f n (k+1)).drop k=aC l::(gB f n (k+1)).drop (k+1):=by
    rw[List.drop_eq_getElem_cons oP];congr 1;simp[gB,ij]
   refine aQ ?_;have sW:l.length<=10:=by omega
   clear kd av eO hx By NR hle v9 eg de yv
   refine ab (eN (α:=Nat×Mem×Nat)
    (fun j=>⟨ax [(1,.pt (ay f)),(6,.rp 3 0),(7,I k),(28,ew f.blocks),(29,I n),(30,I k),(54,aC l),(55,I l.length),(56,I j.1)],j.2.1,j.2.2⟩)
    (fun j=>j.1<=l.length/\4<=j.2.2/\j.2.1 1=some (.cells (gB f n (k+1)) 27)/\j.2.1 3=some (.cells (fS f (.rs 1 0 n) (.rs 2 0 n) .z) 89)/\(∃ ρ,fh j.2.1 j.2.2 2 n 27 3 ρ (fun i=>((l.take j.1).foldl (cO k) L0 i).map I)/\(∀ i,i<n->((l.take j.1).foldl (cO k) L0 i).map I≠[]->ρ i≠1/\ρ i≠3))/\∀ i,((l.take j.1).foldl (cO k) L0 i).length<=12*k+j.1) (fun j=>l.length - j.1) (0,m,nx+2)
    (ao eH) ⟨Nat.zero_le _,oM,N1,N3,⟨ρ,NJ,J⟩,hlen⟩ ?_)
   clear N1 N3 NJ hlen J wq gE;rintro⟨j,m,nx⟩ ⟨hj,gE,U,m3,⟨ρ,C,J⟩,hlen⟩;dsimp only at hj gE U m3 C J hlen ⊢;have av:=C.row;have eO:=m3;have cI:=C.oX;have dn:∀ t,l[j]? =some t->(l.take (j+1)).foldl (cO k) L0=cO k ((l.take j).foldl (cO k) L0) t:=fun t ht=>lL ht;have lk:j=l.length->(l.take j).foldl (cO k) L0=bh f.blocks (k+1):=fun e=>by rw[bL,cL oG]
   generalize (l.take j).foldl (cO k) L0=L at C J hlen av dn lk;refine SS ?_;refine ab ⟨_,rfl,fun h=>?_,fun h=>?_⟩
   .have ss:j<l.length:=by simpa using h
    have rz:l[j]? =some l[j]:=aL ss;have kS:=cB _ (bR ss);generalize l[j]=t at rz kS;obtain⟨i,rfl⟩:=eC kS.1;have bB:i<n:=kS.2;have hL:=hlen i;have dn:(l.take (j+1)).foldl (cO k) L0=up L i (L i++[(k:Int)]):=dn _ rz
    have od:∀ i,((l.take (j+1)).foldl (cO k) L0 i).length<=12*k+(j+1):=fun a=>by
     rw[dn];exact zx (t:=(i:Int)) hlen a
    have sT:(fun a=>((l.take (j+1)).foldl (cO k) L0 a).map I)=up (fun a=>(L a).map I) i ((L i++[(k:Int)]).map I):=by rw[dn];exact DA
    obtain⟨cs,kd⟩:=CG (ρ:=ρ) (L:=fun i=>(L i).map I) bB
    have NT:∀ a,a<n->((l.take (j+1)).foldl (cO k) L0 a).map I≠[]->up ρ i (nx+1) a≠1/\up ρ i (nx+1) a≠3:=fun a ha aI=>by
     simp only[up];split
     .omega
     .rename_i sS;refine J a ha ?_;rw[dn,up_ne _ _ sS] at aI;exact aI
    refine ws ?_;refine ap ?_;refine ab (kX Qw ?_);by_cases hz:L i=[]
    .have o4:jc (ρ i) ((L i).map I)=.z:=by rw[hz];rfl
     rw[o4] at kd;refine aQ ?_;refine bH ?_;refine bf (by simp[apartT];omega) ?_;refine af ?_;refine ab (aP (j+1,up (up (up m nx (some (.cells [I k] 3))) (nx+1) (some (.cells [I k] 3))) 2 (some (.cells ((kI ρ (fun i=>(L i).map I) n).set i (.rs (nx+1) 0 1)) 27)),nx+2) (ao eH) ⟨oM,oM,?_,?_,⟨up ρ i (nx+1),?_,NT⟩,od⟩ oM)
     .dsimp only;exact aw oG (aw oG (aw oG U))
     .dsimp only;exact aw oG (aw oG (aw oG m3))
     dsimp only;rw[sT];refine C.wl bB oS oG oG ?_ ?_ (fun q hq qi _=>?_)
     .rw[hz];exact up_same _ _ _
     .rw[hz];exact aw oG (up_same _ _ _)
     .exact aw oG (aw oG (aw oG rfl))
    .have aI:(L i).map I≠[]:=by simpa using hz
     have o4:jc (ρ i) ((L i).map I)=.rs (ρ i) 0 (L i).length:=by rw[nq aI,List.length_map]
     rw[o4] at kd;have lY:=C.qT i bB aI;have wq:=C.lt i bB aI;have hρ2:=C.ne i bB aI;obtain⟨NE,hρ3⟩:=J i bB aI;refine aQ ?_;refine aR ?_;refine tN (tt rfl (aw oG lY) rfl V.h V.h (uO (up_same _ _ _) rfl) rfl) ak ⟨V.h,rfl,(by first|omega|exact bn rfl|(simp;done)|(simp;omega)),oC,(by first|rfl|(simp;done)|(simp;omega)),(by unfold maxLen;first|omega|(simp;omega)),(by rw[b3];first|omega|(simp;omega)),(by first|(simp;done)|(simp;omega))⟩ ?_;refine af ?_;refine bf (by simp[apartT];omega) ?_;refine af ?_;refine ab (aP (j+1,up (up (up (up m nx (some (.cells [I k] 3))) (ρ i) none) (nx+1) (some (.cells ((L i).map I++[I k]) 3))) 2 (some (.cells ((kI ρ (fun i=>(L i).map I) n).set i (.rs (nx+1) 0 ((L i).length+1))) 27)),nx+2) (ao eH) ⟨oM,oM,?_,?_,⟨up ρ i (nx+1),?_,NT⟩,od⟩ oM)
     .dsimp only;exact aw oG (aw oG (aw oG (aw oG U)))
     .dsimp only;exact aw oG (aw oG (aw oG (aw oG m3)))
     dsimp only;rw[sT];refine C.wl bB oS oG oG ?_ ?_ (fun q hq qi kO=>?_)
     .rw[List.length_map,List.length_append];exact up_same _ _ _
     .rw[List.map_append];exact aw oG (up_same _ _ _)
     .have:=kO aI;exact aw oG (aw oG (aw oG (aw oG rfl)))
   .have a9:¬ j<l.length:=by simpa using h
    have vl:=lk oG;subst vl;show AOps _ _ _ _ _ _ _ _ _;refine af ?_;refine ab (aP (k+1,m,nx) (ao eH) ⟨oM,gE,U,m3,⟨ρ,C,J⟩,fun i=>by have:=hlen i;dsimp only at this ⊢;omega⟩ oM)
  .have a9:¬ k<n:=by simpa using h
   have:k=n:=by omega
   subst this;exact⟨m,nx,ρ,ao eH,gE,U,m3,C,J⟩
 .rintro s ⟨m,nx,ρ,hg,gE,U,m3,C,J⟩;have oZ:¬ ∃ i,i<n/\(bh f.blocks n i).map I≠[]/\ρ i=2:=fun⟨i,h1,h2,h3⟩=>C.ne i h1 h2 h3;have NU:¬ ∃ i,i<n/\(bh f.blocks n i).map I≠[]/\ρ i=1:=fun⟨i,h1,h2,h3⟩=>(J i h1 h2).1 h3;have NV:¬ ∃ i,i<n/\(bh f.blocks n i).map I≠[]/\ρ i=3:=fun⟨i,h1,h2,h3⟩=>(J i h1 h2).2 h3;have uf:=hg.trans (Ck (l:=[(6,.rp 3 0)]) (ml:=[(1,.cells (gB f n n) 27),(3,.cells (fS f (.rs 1 0 n) (.rs 2 0 n) .z) 89)]) (fun r=>∃ i,i<n/\(bh f.blocks n i).map I≠[]/\ρ i=r) C (fun _=>.map) c3 (fun i h1 h2=>⟨i,h1,h2,rfl⟩) oZ ⟨rfl,trivial⟩ (fun x hx=>by simp at hx;subst hx;exact .rp NV) ⟨U,m3,trivial⟩ (fun x hx=>?_))
  rotate_left
  .simp only[List.mem_cons,List.not_mem_nil,or_false] at hx;rcases hx with rfl|rfl
   .refine⟨jP.cells fun d hd=>?_,NU⟩;obtain⟨i,_,rfl⟩:=List.mem_map.1 hd;split
    .exact .sl _ _
    .exact .z
   .refine⟨jP.cells fun d hd=>?_,NV⟩;simp only[fS,List.mem_cons,List.not_mem_nil,or_false] at hd;rcases hd with rfl|rfl|rfl|rfl|rfl|rfl|rfl|rfl|rfl|rfl|rfl
    .exact .s _
    .exact .s _
    .exact .s _
    .exact .s _
    .exact .sl _ _
    .exact .sl _ _
    .exact .sl _ _
    .exact .sl _ _
    .exact .rs NU
    .exact .rs oZ
    .exact .z
  have hbc:gB f n n=(cF f).map aC:=by
   unfold gB cF;refine List.ext_getElem (by simp[hn]) fun i h1 h2=>?_;have hi:i<n:=by simpa using h1
   simp only[List.getElem_map,List.getElem_range,hi,if_true];exact congrArg aC (zX (aL oG))
  have hg2:=uf.trans (mU (i:=1) (e:=27) (cs:=gB f n n) (l:=[(6,.rp 3 0)]) (ml:=[(2,.cells ((List.range n).map fun i=>.sl ((bh f.blocks n i).map I) ((bh f.blocks n i).map I).length) 27),(3,.cells (fS f (bC (cF f)) (.rs 2 0 n) .z) 89)]) rfl eH ⟨?_,?_,trivial⟩)
  rotate_left
  .refine s9 oG rfl (jP.cells (X:=fun p=>p=1) (fun d hd=>?_) _ _ _ rfl);obtain⟨i,_,rfl⟩:=List.mem_map.1 hd;exact .sl _ _
  .show some (Row.cells (List.map _ (fS f (.rs 1 0 n) (.rs 2 0 n) .z)) 89)=_
   have e1:sub (fz0 1 (gB f n n) (prog.cellsOf 27)) (.rs 1 0 n)=bC (cF f):=by
    rw[lM (by rw[wu];simp),hbc,bC,show(cF f).length=n by simp[cF,hn]]
   have e2:sub (fz0 1 (gB f n n) (prog.cellsOf 27)) (.rs 2 0 n)=.rs 2 0 n:=s5 oG;simp only[fS,List.map_cons,List.map_nil,e1,e2];rfl
  have hg3:=hg2.trans (mU (i:=2) (e:=27) (cs:=(List.range n).map fun i=>.sl ((bh f.blocks n i).map I) ((bh f.blocks n i).map I).length) (l:=[(6,.rp 3 0)]) (ml:=[(3,.cells (fS f (bC (cF f)) (bC (dI f.blocks)) .z) 89)]) rfl eH ⟨?_,trivial⟩)
  rotate_left
  .show some (Row.cells (List.map _ (fS f (bC (cF f)) (.rs 2 0 n) .z)) 89)=_
   have e1:sub (fz0 2 ((List.range n).map fun i=>.sl ((bh f.blocks n i).map I) ((bh f.blocks n i).map I).length) (prog.cellsOf 27)) (.rs 2 0 n)=bC (dI f.blocks):=by
    rw[lM (by rw[wu];simp),CI,dI,hn]
   simp only[fS,List.map_cons,List.map_nil,e1];rfl
  refine⟨_,hg3,au ?_⟩;have A4:=A4 (f:=f) (beh:=cF f) (ahd:=dI f.blocks) (c:=.z) (w:= -1) .z rfl (by simp[cF,hn]) hn (by have:=bS.pos;omega) oG lF cV;have lE:=wG (w:= -1) lF (by have:=bS.pos;omega);have rC:vd f=eS f (cF f) (dI f.blocks) (c6 (dH (bw (cF f)) n (-1))):=by rw[vd,hn]
  rw[rC];generalize dH (bw (cF f)) n (-1)=R at A4 lE ⊢;refine af ?_;refine lh (OB (rds:=[3]) (args:=[.rp 3 0,I (-1)]) (args':=[.pt (eS f (cF f) (dI f.blocks) .z),I (-1)]) ⟨Uk (cs:=eS f (cF f) (dI f.blocks) .z) rfl oS rfl (Cn .z),cw (.s _),trivial⟩ A4 (fun d hd=>by obtain⟨x,_,rfl⟩:=List.mem_map.1 hd;rfl)) rfl cY fun d m' nx' hp=>?_;obtain⟨rfl,rfl,rfl⟩:=hp;have av:up (bc [(3,.cells (fS f (bC (cF f)) (bC (dI f.blocks)) .z) 89)]) nx (some (.cells (R.map B) 4)) 3=some (.cells (fS f (bC (cF f)) (bC (dI f.blocks)) .z) 89):=aw oG rfl;refine af ?_;refine cE (gl (d:=.rs _ _ _) (cs':=_) rfl rfl av rfl rfl) ak (dx V.h V.h (by first|(simp;done)|exact⟨rfl,bn rfl⟩|(simp;omega)) rfl) ?_;refine ab ?_
  have e0:(fun j=>if j=nx then none else(up (up (bc [(3,.cells (fS f (bC (cF f)) (bC (dI f.blocks)) .z) 89)]) nx (some (.cells (R.map B) 4))) 3 (some (.cells (fS f (bC (cF f)) (bC (dI f.blocks)) (.rs nx 0 n)) 89)) j).map (Row.sub (fz0 nx (R.map B) (prog.cellsOf 4)))) 3=some (.cells (fS f (bC (cF f)) (bC (dI f.blocks)) (c6 R)) 89):=by
   dsimp only;rw[if_neg oG,up_same];show some (Row.cells (List.map _ (fS f (bC (cF f)) (bC (dI f.blocks)) (.rs nx 0 n))) 89)=_
   have e1:sub (fz0 nx (R.map B) (prog.cellsOf 4)) (.rs nx 0 n)=c6 R:=by
    rw[lM (by rw[c4];simp[lE]),c6,lE]
   simp only[fS,List.map_cons,List.map_nil,e1];rfl
  refine⟨_,(zG (i:=nx) (e:=4) (cs:=R.map B) (l:=[(6,.rp 3 0)]) (aw oG (up_same _ _ _)) ⟨zY oG,trivial⟩).trans (px (i:=3) (l:=[(6,.pt (eS f (cF f) (dI f.blocks) (c6 R)))]) e0 ⟨jl,trivial⟩),aj ?_⟩;refine ap ?_;exact ab (lT rfl rfl rfl)
end Go.Proofs.Tryz.K
end
namespace Go.Argus
open Go Go.Abs
structure LG where
 beh:Nat->List Int
 blk:Nat->bu
 Ow:Nat->Int->List Int
 Ox:Nat->Int->Int
def DF(l:List Int):Prop:=∀ r∈l,0<=r/\r<1216
structure Xg(y:bd):Prop where
 rd:DF (bW y)
 wr:cN y<1216
structure YT(g:LG)(n:Nat):Prop where
 beh:∀ b,∀ c∈g.beh b,0<=c/\c.toNat<n
 ins:∀ b,∀ y∈(g.blk b).ins,Xg y
 Ow:∀ b,∀ c∈g.beh b,DF (g.Ow b c)
 Ox:∀ b,∀ c∈g.beh b,g.Ox b c<1216
 red:∀ b,DF (bU (g.blk b).fin)
section
variable{g:LG}{n:Nat}
end
end Go.Argus
namespace Go.Argus
section
variable{g:LG}{n:Nat}{ord:List Int}
end
end Go.Argus
section
open Go Go.Abs Go.Proofs Go.Argus
namespace Go.Argus
def A6(f:aA)(c:Nat):List Int:=bh f.blocks f.blocks.length c
def p6(f:aA)(b:Nat):bu:=f.blocks.getD b gM
def lgR(f:aA):LG:=⟨bw (cF f),p6 f,fun b c=>TG (A6 f c.toNat) b (p6 f c.toNat),fun b c=>zV (p6 f b).fin c⟩
theorem CL{f:aA}{b:Nat}{x:bu}(h:f.blocks[b]? =some x):p6 f b=x:=getD_some h
theorem Ha{f:aA}{b:Nat}(h:f.blocks.length<=b):p6 f b=gM:=by
 unfold p6;rw[bD,List.getElem?_eq_none h];rfl
theorem JS{α:Type}{p:α->Bool}{y:α}:∀ {l:List α},y∈l.takeWhile p->p y=true
 |[],h=>by simp at h
 |a::l,h=>by
  rw[List.takeWhile_cons] at h;split at h
  .rename_i ha;rcases List.mem_cons.1 h with e|e
   .subst e;exact ha
   .exact JS e
  .simp at h
theorem RL{x:bu}{y:bd}(h:y∈xZ x):y.op=19:=by simpa[bG] using JS h
theorem Qx{x:bu}{y:bd}(h:y∈xZ x):y∈x.ins:=(List.takeWhile_prefix bG).subset h
theorem pI.YR{f:aA}(h:pI f){b:Nat}{x:bu}(hx:f.blocks[b]? =some x){y:bd}(hy:y∈xZ x):y.args.length=(A6 f b).length/\∀ r∈y.args,0<=r/\r<1200:=by
 obtain⟨j,hj⟩:=dh (Qx hy);obtain⟨h1,_,_,_,h2⟩:=(B3 h.ag h.aK.1 h.aK.2 (h.right b x hx j y hj)).2 (RL hy);refine⟨by unfold A6;omega,fun r hr=>?_⟩;have:=(h2 r hr).2;unfold gh at this;have:=h.ag;omega
def YS(f:aA):List Int:=(ky (bw (cF f)) f.blocks.length).reverse
end Go.Argus
namespace Go.Proofs.Tryz.K
set_option maxRecDepth 10000
theorem lg_ok{f:aA}(h:pI f):YT (lgR f) f.blocks.length:=by
 have M:∀ b,∀ y∈(p6 f b).ins,lX y:=fun b y hy=>by
  cases hx:f.blocks[b]? with
  |none=>rw[Ha (List.getElem?_eq_none_iff.1 hx)] at hy;simp[gM] at hy
  |some x=>rw[CL hx] at hy;exact(h.blk x (cg hx)).ins y hy
 have C:∀ b,b<f.blocks.length->vo (p6 f b).fin:=fun b hb=>by
  rw[CL (aL hb)];exact(h.ends _ (bR hb)).fin
 refine⟨beh_in h,fun b y hy=>?_,fun b c hc=>?_,fun b c hc=>?_,fun b=>?_⟩
 .have:=M b y hy;exact⟨fun r hr=>by have:=this.rd r hr;omega,by have:=this.wr;omega⟩
 .have J:=beh_in h b c hc;have hx:=aL J.2;intro r hr;obtain⟨y,hy,rfl⟩:=List.mem_map.1 hr;rw[CL hx] at hy;obtain⟨e1,e2⟩:=h.YR hx hy;rw[bD];cases e:y.args[(nu (fun z=>(b:Int)==z) (A6 f c.toNat)).toNat]? with
  |none=>simp
  |some v=>
   have:=e2 v (cg e);simp only[Option.getD_some];omega
 .show zV _ _<1216
  have hb:b<f.blocks.length:=by
   rcases Nat.lt_or_ge b f.blocks.length with g|g
   .exact g
   .have hc:c∈bw (cF f) b:=hc;rw[Cp g] at hc;simp at hc
  have:=(C b hb).wr;show zV (p6 f b).fin c<1216;unfold zV;split<;>omega
 .intro r hr;have hr:r∈bU (p6 f b).fin:=hr;rcases Nat.lt_or_ge b f.blocks.length with g|g
  .have:=(C b g).rd r hr;omega
  .rw[Ha g] at hr;simp[gM,bU,aE] at hr
theorem ord_in{f:aA}(h:pI f):∀ b∈YS f,0<=b/\b.toNat<f.blocks.length:=fun b hb=>by
 have C:=h.pos;have hb:=(Qy (beh_in h) C).1 (List.mem_reverse.1 hb);refine⟨hb.1,?_⟩;have hl:=wG (w:= -1) (beh_in h) C;rcases Nat.lt_or_ge b.toNat f.blocks.length with g|g
 .exact g
 .rw[bD,List.getElem?_eq_none oG] at hb;simp at hb
theorem It{f:aA}(C:dV f≠0):PCall prog 51 [.agg (ay f)] (.tup [.s (.pointer none),I (dV f)]):=by
 have sU:=sU (f:=f);generalize dV f=e at sU C;have ja:(e !=0)=true:=by simpa using C
 refine a7 EO (.cons (.agg (fq f)) .nil) (.tup (.cons (.s _) (.cons (.s _) .nil))) ?_;rw[ML];refine au ?_;refine ap ?_;refine ab (aJ (bj [(0,ay f,26)] eH (l:=[(1,.pt (ay f))]) eH) (aB (aj ?_)));refine SS ?_;refine cl sU ?_;refine SS ?_;refine ab (aB (aj ?_));refine af ?_;refine ab (np ?_);refine aB (aj ?_);refine ap ?_;exact ab (di (lT rfl rfl rfl))
end Go.Proofs.Tryz.K
namespace Go.Abs
section
variable{P:Program}{m:Mem}{nx:Nat}
end
end Go.Abs
namespace Go.Argus
def JT(f:aA)(b r:Int):Prop:=SH f.blocks.length b=true/\0<=r/\r<f.ag.length
instance(f:aA)(b r:Int):Decidable (JT f b r):=by unfold JT;infer_instance
theorem hd9:∀ a b c d e f g h i:Bool,(if(if(if(if(if(if(if a=true then b else false)=true then true else c)=true then true else(if d=true then e else false))=true then true else f)=true then true else g)=true then true else h)=true then true else i)=((a&&b)||(c||((d&&e)||(f||(g||(h||i)))))):=by decide
theorem YU:∀ a b c d e:Bool,(if(if(if(if a=true then true else b)=true then true else c)=true then true else d)=true then true else e)=(a||(b||(c||(d||e)))):=by decide
def vI(f:aA):Bool:=(decide (24<(f.blocks.length:Int))&&decide ((f.blocks.length:Int)<=1200))||(decide (1210<(f.blocks.length:Int))||((decide (14<(f.ag.length:Int))&&decide ((f.ag.length:Int)<=1200))||(decide (1210<(f.ag.length:Int))||(decide (130<(f.name.size:Int))||(decide (70<(f.aK.length:Int))||decide (10<(f.signals.length:Int)))))))
def n6(b:bu):Bool:=decide (12<(b.ins.length:Int))||(decide (8<(b.fin.az.length:Int))||(decide (10<(b.fin.args.length:Int))||(decide (130<(b.fin.name.size:Int))||decide (10<(b.fin.ins.args.length:Int)))))
def n7(y:bd):Bool:=decide (26<(y.args.length:Int))
def nz(f:aA):Bool:= !(vI f)&&(f.signals.all (fun s=> !(decide (20<(s.size:Int))))&&f.blocks.all (fun b=> !(n6 b)&&b.ins.all fun y=> !(n7 y)))
theorem abW{f:aA}(h:nz f=true):f.blocks.length<=24\/1200<f.blocks.length:=by
 unfold nz vI at h;simp only[aM,Bool.not_eq_true',Bool.or_eq_false_iff] at h;have h1:=h.1.1;by_cases h2:24<f.blocks.length
 .by_cases h3:f.blocks.length<=1200
  .simp at h1;omega
  .omega
 .omega
def allI(cnt:List Bool)(k:Nat):List Int:=((List.range k).filter fun i=>cnt.getD i false).map fun(i:Nat)=>(i:Int)
theorem Cq(cnt:List Bool)(k:Nat):allI cnt (k+1)=if cnt.getD k false=true then allI cnt k++[(k:Int)] else allI cnt k:=by
 unfold allI;rw[List.range_succ,List.filter_append,List.map_append];by_cases h:cnt.getD k false=true
 .rw[if_pos h,List.filter_cons_of_pos (by exact h)];rfl
 .rw[if_neg h,List.filter_cons_of_neg (by exact h),List.filter_nil,List.map_nil,List.append_nil]
theorem HW(cnt:List Bool):∀ {k n:Nat},k<=n->∃ t,allI cnt n=allI cnt k++t
 |k,0,h=>by
  have:k=0:=by omega
  subst this;exact⟨[],oS⟩
 |k,n+1,h=>by
  rcases Nat.lt_or_ge k (n+1) with g|g
  .obtain⟨t,ht⟩:=HW cnt (k:=k) (n:=n) oG;rw[Cq];split
   .exact⟨t++[(n:Int)],by rw[ht,List.append_assoc]⟩
   .exact⟨t,ht⟩
  .have:k=n+1:=by omega
   subst this;exact⟨[],oS⟩
theorem SI{cnt:List Bool}{k n:Nat}(hk:k<n)(hc:cnt.getD k false=true):(allI cnt n)[(allI cnt k).length]? =some (k:Int):=by
 obtain⟨t,ht⟩:=HW cnt (k:=k+1) (n:=n) oG;rw[ht,Cq,if_pos hc,List.append_assoc,List.getElem?_append_right (bE _),Nat.sub_self];rfl
def yz(k a to eD:Int)(x:bd):End:=⟨k,a,0,to,eD,⟨#[]⟩,x,[],[], -1⟩
def mi:aA:=⟨⟨#[115,117,109]⟩,false,1,1,[1,1,1],[],[],[⟨[⟨1,1,0,0,0,[]⟩],yz 1 0 1 0 dc⟩,⟨[],yz 2 0 2 3 dc⟩,⟨[⟨1,2,0,0, -1,[]⟩],yz 5 0 4 0 ⟨30,1,1,0,0,[]⟩⟩,⟨[],yz 3 1 0 0 dc⟩,⟨[],yz 5 0 1 0 ⟨30,0,0,2,0,[]⟩⟩]⟩
def qU:List D:=eS mi [[1],[2,3],[4],[],[1]] [[],[0,4],[1],[1],[2]] (c6 [true,true,true,true,true])
end Go.Argus
namespace Go.Proofs.Tryz.K
set_option maxRecDepth 10000
set_option maxHeartbeats 1000000 in
theorem y3{f:aA}:PCall prog 15 [.agg (ay f)] (B (nz f)):=by
 have aT:∀ a∈[D.agg (ay f)],Tr a:=.cons (.agg (fq f)) .nil;refine a7 YV aT (Tr.s _) ?_;rw[YW];refine au ?_;refine af ?_;refine ab (aJ (bj [(0,ay f,26)] eH (l:=[(1,.pt (ay f))]) eH) (aB (au ?_)));refine aQ ?_;refine aQ ?_;refine aQ ?_;refine bH ?_;refine af ?_;refine bl rfl rfl (Dt rfl) (fun hc=>⟨ak,V.h⟩) ?_;refine aQ ?_;refine aR ?_;have hd:vI f=_:=(hd9 (decide (24<(f.blocks.length:Int))) (decide ((f.blocks.length:Int)<=1200)) (decide (1210<(f.blocks.length:Int))) (decide (14<(f.ag.length:Int))) (decide ((f.ag.length:Int)<=1200)) (decide (1210<(f.ag.length:Int))) (decide (130<(f.name.size:Int))) (decide (70<(f.aK.length:Int))) (decide (10<(f.signals.length:Int)))).symm;refine ab ⟨_,.refl _,cy rfl (fun h=>?_) fun h=>cu (aB (au ?_))⟩
 .have h1:vI f=true:=hd.trans h;refine aB (aj ?_);refine SS ?_;refine ab (di (aq (d:=B false) rfl ?_));rw[nz,h1];rfl
 have h1:vI f=false:=hd.trans h;clear hd h
 have ab2:f.blocks.length<=100000/\f.signals.length<=100000:=by
  unfold vI at h1;simp only[Bool.or_eq_false_iff,decide_eq_false_iff_not] at h1;omega
 refine SS ?_
 refine ab (bZ (fun s=>Ghost prog s ⟨ax [(1,.pt (ay f))],fun _=>none,1⟩/\f.signals.all (fun s=> !(decide (20<(s.size:Int))))=true) (cP (α:=Nat) (fun k=>⟨ax [(1,.pt (ay f)),(3,I k)],fun _=>none,1⟩)
  (fun k=>k<=f.signals.length/\(f.signals.take k).all (fun s=> !(decide (20<(s.size:Int))))=true) (fun k=>f.signals.length - k) 0 (ao eH) ⟨oG,rfl⟩ ?_) ?_)
 .rintro k ⟨hk,hinv⟩;refine aR ?_;refine ab ⟨_,rfl,fun h=>?_,fun h=>?_⟩
  .have al:k<f.signals.length:=by simpa using h
   have hx:f.signals[k]? =some f.signals[k]:=by simp[al]
   have J:f.signals[k]∈f.signals:=bR _;generalize f.signals[k]=x at hx J;refine ws ?_;refine dF ?_;refine ab (an rfl (fun hp=>?_) fun hp=>?_)
   .refine ws ?_;refine SS ?_;refine ab (aU (cq (aO (aq (d:=B false) rfl ?_))))
    have:f.signals.all (fun s=> !(decide (20<(s.size:Int))))=false:=by
     refine Bool.eq_false_iff.2 fun ht=>?_;have:=br.1 ht x J;rw[hp] at this;cases this
    rw[nz,this];simp
   .refine cD ?_;refine ap ?_;refine ab (aP (k+1) (ao eH) ⟨oG,?_⟩ oG);rw[List.take_add_one,hx,List.all_append,hinv];show(true&&(!(decide (20<(x.size:Int)))&&true))=true;rw[hp];rfl
  .have U:¬ k<f.signals.length:=by simpa using h
   rw[cL oG] at hinv;exact⟨ao eH,hinv⟩
 rintro s ⟨hg,MM⟩;refine⟨_,hg,aB (au ?_)⟩;refine SS ?_
 refine ab (bZ (fun s=>(∃ nx,Ghost prog s ⟨ax [],fun _=>none,nx⟩)/\f.blocks.all (fun b=> !(n6 b)&&b.ins.all fun y=> !(n7 y))=true) (cP (α:=Nat×Nat) (fun k=>⟨ax [(1,.pt (ay f)),(4,I k.1)],fun _=>none,k.2⟩)
  (fun k=>k.1<=f.blocks.length/\(f.blocks.take k.1).all (fun b=> !(n6 b)&&b.ins.all fun y=> !(n7 y))=true) (fun k=>f.blocks.length - k.1) (0,1) (ao eH) ⟨Nat.zero_le _,rfl⟩ ?_) ?_)
 .rintro⟨k,nx⟩ ⟨hk,hinv⟩;dsimp only at hk hinv ⊢;refine aR ?_;refine ab ⟨_,rfl,fun h=>?_,fun h=>?_⟩
  .have al:k<f.blocks.length:=by simpa using h
   have hx:f.blocks[k]? =some f.blocks[k]:=by simp[al]
   have J:f.blocks[k]∈f.blocks:=bR _;generalize f.blocks[k]=x at hx J
   have C:(!(n6 x)&&x.ins.all fun y=> !(n7 y))=false->nz f=false:=fun hb=>by
    have:f.blocks.all (fun b=> !(n6 b)&&b.ins.all fun y=> !(n7 y))=false:=by
     refine Bool.eq_false_iff.2 fun ht=>?_;have:=br.1 ht x J;rw[hb] at this;cases this
    rw[nz,this];simp
   refine au ?_;refine dF ?_;refine ab (aJ (px (i:=nx) (l:=[(1,.pt (ay f)),(4,I k),(5,.pt (dS x))]) (up_same _ _ _) ⟨rfl,rfl,jl,trivial⟩) (aB (aj ?_)));refine aQ ?_;refine aQ ?_;refine aN ?_;refine bl rfl rfl (Dt rfl) (fun hc=>⟨ak,V.h⟩) ?_;refine bH ?_;refine af ?_;have hd:n6 x=_:=(YU (decide (12<(x.ins.length:Int))) (decide (8<(x.fin.az.length:Int))) (decide (10<(x.fin.args.length:Int))) (decide (130<(x.fin.name.size:Int))) (decide (10<(x.fin.ins.args.length:Int)))).symm;refine ab (cy rfl (fun h=>?_) fun h=>cu (au ?_))
   .have hb:n6 x=true:=hd.trans h;refine aB (aj ?_);refine SS ?_;refine ab (di (cq (aO (aq (d:=B false) rfl ?_))));rw[C (by rw[hb];rfl)]
   .have hb:n6 x=false:=hd.trans h;clear hd h
    have nF:x.ins.length<=100000:=by
     unfold n6 at hb;simp only[Bool.or_eq_false_iff,decide_eq_false_iff_not] at hb;omega
    refine SS ?_
    refine ab (cP (α:=Nat) (fun j=>⟨ax [(1,.pt (ay f)),(4,I k),(5,.pt (dS x)),(6,I j)],fun _=>none,nx+1⟩)
     (fun j=>j<=x.ins.length/\(x.ins.take j).all (fun y=> !(n7 y))=true) (fun j=>x.ins.length - j) 0 (ao eH) ⟨Nat.zero_le _,rfl⟩ ?_)
    rintro j ⟨hj,M⟩;refine aR ?_;refine ab ⟨_,rfl,fun h=>?_,fun h=>?_⟩
    .have cI:j<x.ins.length:=by simpa using h
     have hy:x.ins[j]? =some x.ins[j]:=by simp[cI]
     have X:x.ins[j]∈x.ins:=bR _;generalize x.ins[j]=y at hy X;refine ws ?_;refine bH ?_;refine ab (an rfl (fun hp=>?_) fun hp=>?_)
     .have hp:n7 y=true:=hp;refine ws ?_;refine SS ?_;refine ab (aU (cq (cq (aO (aq (d:=B false) rfl ?_)))));rw[C]
      have:x.ins.all (fun y=> !(n7 y))=false:=by
       refine Bool.eq_false_iff.2 fun ht=>?_;have:=br.1 ht y X;rw[hp] at this;cases this
      rw[this];simp
     .have hp:n7 y=false:=hp;refine cD ?_;refine ap ?_;refine ab (aP (j+1) (ao eH) ⟨oG,?_⟩ oG);rw[List.take_add_one,hy,List.all_append,M];show(true&&(!(n7 y)&&true))=true;rw[hp];rfl
    .have U:¬ j<x.ins.length:=by simpa using h
     rw[cL oG] at M;show AOps _ _ _ _ _ _ _ _ _;refine ap ?_;refine ab (aP (k+1,nx+1) (ao eH) ⟨oM,?_⟩ oM);dsimp only;rw[List.take_add_one,hx,List.all_append,hinv];show(true&&((!(n6 x)&&x.ins.all fun y=> !(n7 y))&&true))=true;rw[hb,M];rfl
  .have U:¬ k<f.blocks.length:=by simpa using h
   rw[cL oG] at hinv;exact⟨⟨nx,ao trivial⟩,hinv⟩
 rintro s ⟨⟨nx,hg⟩,bt⟩;refine⟨_,hg,aj ?_⟩;refine SS ?_;refine ab (aq (d:=B true) rfl ?_);rw[nz,h1,MM,bt];rfl
theorem s61{f:aA}{beh ahd:List (List Int)}{cnt:List Bool}(hlen:cnt.length<=100000):SeqA prog 61 [.pt (eS f beh ahd (c6 cnt))] [] ((allI cnt cnt.length).map fun n=>[I n]):=by
 refine Du mixed MN kr fun L U Stop m nx hI X h0=>?_;rw[YX];refine au ?_;refine bF ?_
 refine ab (eN (α:=Nat×Mem×Nat) (fun k=>⟨ax [(1,.fn (.yield L) [] []),(9,c6 cnt),(10,I cnt.length),(11,I k.1)],k.2.1,k.2.2⟩)
  (fun k=>k.1<=cnt.length/\U (allI cnt k.1).length k.2.1 k.2.2) (fun k=>cnt.length - k.1) (0,m,nx) (ao eH) ⟨Nat.zero_le _,h0⟩ ?_)
 rintro⟨k,m,nx⟩ ⟨hk,J⟩;dsimp only at hk J ⊢;refine SS ?_;refine ab ⟨_,rfl,fun h=>?_,fun h=>?_⟩
 .have al:k<cnt.length:=by simpa using h
  have hx:cnt[k]? =some cnt[k]:=aL al;have hg:cnt.getD k false=cnt[k]:=getD_some hx;have C:=Cq cnt k
  have M:cnt.getD k false=true->((allI cnt cnt.length).map fun n=>[I n])[(allI cnt k).length]? =some [I k]:=fun h=>by
   rw[List.getElem?_map,SI al h];rfl
  rw[hg] at C M;generalize cnt[k]=c at hx C M;refine ws ?_;refine aR ?_;refine er ?_;cases c with
  |false=>
   refine af ?_;(iterate 4 refine z fun _ _=>?_);refine SS ?_;refine ab (KK (cD ?_));refine af ?_;refine ab (aP (k+1,m,nx) (ao eH) ⟨oM,?_⟩ oM);dsimp only;rw[C];exact J
  |true=>
   refine aN ?_;refine Az rfl rfl rfl rfl cY ⟨rfl,_,M rfl,J,fun d m' nx' hp=>?_⟩;rcases hp with⟨rfl,hp⟩|⟨rfl,hp⟩
   .refine af ?_;refine ab (KK (cD ?_));refine af ?_;refine ab (aP (k+1,m',nx') (ao eH) ⟨oM,?_⟩ oM);dsimp only;rw[C,if_pos rfl,List.length_append];exact hp
   .refine af ?_;exact ab (Un (aU (cq (qA (.inr hp)))))
 .have a9:¬ k<cnt.length:=by simpa using h
  have:k=cnt.length:=by omega
  subst this;exact pG (.inl (by rw[List.length_map];exact J))
end Go.Proofs.Tryz.K
namespace Go.Abs
def wc:Value->Value->Bool
 | .int k n,.int k' n'=>decide (k=k')&&decide (n=n')
 | .bool a,.bool b=>a==b
 | .string a,.string b=>decide (a=b)
 |_,_=>false
theorem JU{a b:Value}(h:wc a b=true):a=b:=by
 unfold wc at h;split at h
 .rw[aM,decide_eq_true_eq,decide_eq_true_eq] at h;rw[h.1,h.2]
 .rw[show _=_ from eq_of_beq h]
 .rw[of_decide_eq_true h]
 .cases h
def hU(g:D->D->Bool):List D->List D->Bool
 |[],[]=>true
 |a::xs,b::bs=>g a b&&hU g xs bs
 |_,_=>false
def mJ:Nat->D->D->Bool
 |0,_,_=>false
 |_+1,.s a,.s b=>wc a b
 |_+1,.z,.z=>true
 |_+1,.sl [] 0,.z=>true
 |k+1,.agg a,.agg b=>hU (mJ k) a b
 |k+1,.tup a,.tup b=>hU (mJ k) a b
 |k+1,.sl a n,.sl b m=>Nat.beq n m&&hU (mJ k) a b
 |k+1,.pt a,.pt b=>hU (mJ k) a b
 |_+1,_,_=>false
theorem ta{g:D->D->Bool}:∀ {xs bs:List D},hU g xs bs=true->xs.length=bs.length/\∀ (k:Nat) a,xs[k]? =some a->∃ b,bs[k]? =some b/\g a b=true
 |[],[],_=>⟨rfl,fun k a h=>by simp at h⟩
 |a::xs,b::bs,h=>by
  simp only[hU,aM] at h;obtain⟨h1,h2⟩:=ta h.2;refine⟨by simp[h1],fun k x hx=>?_⟩;cases k with
  |zero=>simp at hx;subst hx;exact⟨b,rfl,h.1⟩
  |succ k=>exact h2 k x (by simpa using hx)
 |[],_::_,h=>by simp[hU] at h
 |_::_,[],h=>by simp[hU] at h
theorem vq{F:Nat->Prop}{β:Pla}{w:World}:∀ (k:Nat) {a b:D} {v:Value},mJ k a b=true->R F β w b v->R F β w a v
 |0,a,b,v,h,_=>by simp[mJ] at h
 |k+1,a,b,v,h,hv=>by
  unfold mJ at h;split at h
  .cases h
  .rename_i e;rw[JU h];exact hv
  .exact hv
  .obtain⟨x,rfl⟩:=hv.z_inv;exact .sln x 0
  .rename_i a b e;cases e;obtain⟨h1,h2⟩:=ta h;cases hv with
   |agg _ vs hl hh=>
    refine .agg _ vs oG fun j d u hd hu=>?_;obtain⟨C,hb,hg⟩:=h2 j d hd;exact vq k hg (hh j C u hb hu)
  .rename_i a b e;cases e;obtain⟨h1,h2⟩:=ta h;cases hv with
   |tup _ vs hl hh=>
    refine .tup _ vs oG fun j d u hd hu=>?_;obtain⟨C,hb,hg⟩:=h2 j d hd;exact vq k hg (hh j C u hb hu)
  .rename_i a n b m e;cases e;rw[aM] at h;have BF:n=m:=Nat.eq_of_beq_eq_true h.1;obtain⟨h1,h2⟩:=ta h.2;subst BF;cases hv with
   |sln a' cap=>
    have:a=[]:=List.length_eq_zero_iff.1 (by simpa using h1);subst this;exact .sln _ _
   |sl _ _ C o cap us J M U g4 g5 X g7=>
    refine .sl _ _ C o cap us J M U g4 g5 (fun j hj=>X j oG) fun j d hd=>?_;obtain⟨d',hb,hg⟩:=h2 j d hd;exact vq k hg (g7 j d' hb)
  .rename_i a b e;cases e;obtain⟨h1,h2⟩:=ta h;cases hv with
   |pt _ C o us J M U X g7=>
    refine .pt _ C o us J M U (fun j hj=>X j oG) fun j d hd=>?_;obtain⟨d',hb,hg⟩:=h2 j d hd;exact vq k hg (g7 j d' hb)
  .cases h
theorem B8{P:Program}{f:FuncId}{args args':List D}{r:D}{k:Nat}(hc:PCall P f args' r)(h:hU (mJ k) args' args=true)(ht:∀ a∈args,Tr a):PCall P f args r:=by
 obtain⟨h1,h2⟩:=ta h;refine⟨hc.1,ht,fun F w vs C hR=>hc.2.2 F w vs C ⟨by rw[hR.1,h1],fun j d v hd hv=>?_⟩⟩;obtain⟨b,hb,hg⟩:=h2 j d hd;exact vq k hg (hR.2 j b v hb hv)
theorem RM{P:Program}{f:FuncId}{fs C:List D}{xs:List (List D)}{k:Nat}(hc:SeqA P f C [] xs)(h:hU (mJ k) C fs=true):SeqA P f fs [] xs:=by
 obtain⟨h1,h2⟩:=ta h;refine⟨hc.1,fun F l I Stop m nx β w vs J hS hm hn hR hy h0=>hc.2 F l I Stop m nx β w vs J hS hm hn ⟨?_,fun j d v hd hv=>?_⟩ hy h0⟩
 .have:=hR.1;simp only[List.length_append] at this ⊢;omega
 .rcases Nat.lt_or_ge j C.length with g|g
  .rw[List.append_nil,List.getElem?_append_left g] at hd;obtain⟨b,hb,hg⟩:=h2 j d hd;exact vq k hg (hR.2 j b v (by rw[List.append_nil,List.getElem?_append_left oG];exact hb) hv)
  .rw[List.append_nil,List.getElem?_append_right g] at hd;exact hR.2 j d v (by rw[List.append_nil,List.getElem?_append_right oG, <- h1];exact hd) hv
def Am(t:List (FuncId×List D×D))(f:FuncId)(args:List D):Option D:=(t.find? fun x=>Nat.beq x.1 f&&(hU (mJ 20) x.2.1 args&&args.all (mz depth))).map (·.2.2)
def AK(t:List (FuncId×List D×List (List D)))(f:FuncId)(fs cs:List D):Option (List (List D)):=match cs with
 |[]=>(t.find? fun x=>Nat.beq x.1 f&&hU (mJ 20) x.2.1 fs).map (·.2.2)
 |_=>none
theorem Hc{P:Program}{t:List (FuncId×List D×D)}(h:∀ x∈t,PCall P x.1 x.2.1 x.2.2){f:FuncId}{args:List D}{r:D}(hr:Am t f args=some r):PCall P f args r:=by
 unfold Am at hr;rw[cK] at hr;obtain⟨x,hx,rfl⟩:=hr;have h1:=List.find?_some hx;rw[aM,aM] at h1;have hf:x.1=f:=Nat.eq_of_beq_eq_true h1.1;have:=h x (List.mem_of_find?_eq_some hx);rw[hf] at this;exact B8 this h1.2.1 fun a ha=>lU (br.1 h1.2.2 a ha)
theorem HV{P:Program}{t:List (FuncId×List D×List (List D))}(h:∀ x∈t,SeqA P x.1 x.2.1 [] x.2.2/\∀ y∈x.2.2,∀ d∈y,Tr d){f:FuncId}{fs cs:List D}{xs:List (List D)}(hr:AK t f fs cs=some xs):SeqA P f fs cs xs/\∀ y∈xs,∀ d∈y,Tr d:=by
 unfold AK at hr;split at hr
 .rw[cK] at hr;obtain⟨x,hx,rfl⟩:=hr;have h1:=List.find?_some hx;rw[aM] at h1;have hf:x.1=f:=Nat.eq_of_beq_eq_true h1.1;have h2:=h x (List.mem_of_find?_eq_some hx);rw[hf] at h2;exact⟨RM h2.1 h1.2,h2.2⟩
 .cases hr
def wx:Nat->D->D->Bool
 |0,_,_=>false
 |_+1,.s a,.s b=>wc a b
 |_+1,.z,.z=>true
 |k+1,.sl a n,.sl b m=>Nat.beq n m&&hU (wx k) a b
 |_+1,_,_=>false
theorem Iu{g:D->D->Bool}(hg:∀ a b,g a b=true->a=b):∀ {xs bs:List D},hU g xs bs=true->xs=bs
 |[],[],_=>rfl
 |a::xs,b::bs,h=>by
  simp only[hU,aM] at h;rw[hg a b h.1,Iu hg h.2]
 |[],_::_,h=>by simp[hU] at h
 |_::_,[],h=>by simp[hU] at h
theorem TJ:∀ (k:Nat) (a b:D),wx k a b=true->a=b:=fun k=>by
 induction k with
 |zero=>exact fun a b h=>by simp[wx] at h
 |succ k ih=>
  intro a b h;cases a<;>cases b<;>simp only[wx,aM,reduceCtorEq,Bool.false_eq_true] at h ⊢
  .rw[JU h]
  .rw[Nat.eq_of_beq_eq_true h.1,Iu ih h.2]
def xL:Nat->Code->List Code
 |k+1,.seq a b=>a::xL k b
 |_,_=>[]
def AL:Nat->Code->Code
 |k+1,.seq a b=>AL k b
 |_,c=>c
theorem parts_eq:∀ (k:Nat) (c:Code),c=(xL k c).foldr .seq (AL k c)
 |0,c=>by cases c<;>rfl
 |k+1,c=>by
  cases c with
  |seq a b=>
   show Code.seq a b=.seq a ((xL k b).foldr .seq (AL k b));rw[<- parts_eq k b]
  |_=>rfl
def xM(C:Bool->Code->bK->Option (Exit×bK)):List Code->bK->Option bK
 |[],s=>some s
 |c::cs,s=>match C true c s with
  |some (.normal,s')=>xM C cs s'
  |_=>none
theorem Hd{P:Program}{M:Bool->Code->bK->Option (Exit×bK)}(C:vz P M){B:Code}{Q:Exit->St->Prop}:∀ {cs:List Code} {c:Code} {s s':bK},xM M (c::cs) s=some s'->(∃ st',Ghost P s'.st st'/\AW P noY true B Q st')->AW P noY true ((c::cs).foldr .seq B) Q s.st
 |[],c,s,s',h,k=>by
  simp only[xM] at h;split at h
  .rename_i J he;cases h;exact dA (fun st=>st=s'.st) (C _ _ _ _ _ he _ rfl) fun st e=>e▸k
  .cases h
 |d::cs,c,s,s',h,k=>by
  rw[xM] at h;split at h
  .rename_i J he;exact dA (fun st=>st=J.st) (C _ _ _ _ _ he _ rfl) fun st e=>⟨J.st,e▸ .refl _,Hd C h k⟩
  .cases h
section
variable{P:Program}{env:Env}{m:Mem}{nx:Nat}{x y:Operand}{t p:TypeId}{n n':Int}
variable{Y:YSpec}{rf:Bool}{Q:Exit->St->Prop}{st:St}{id fQ i1:Nat}{rc:Array Oper}{body:Code}{α:Type}{cf:List (Nat×Nat)}{u:Nat}
end
end Go.Abs
namespace Go.Proofs.Tryz.K
set_option maxRecDepth 100000
theorem Qz:dV mi=0:=kr
theorem QA:vd mi=qU:=kr
end Go.Proofs.Tryz.K
namespace Go.Argus
def Lw(n:Int):List Int:=n::List.replicate 18 0
def Lx:D:=.sl (b8 ([1,3,3,2,7].map Lw)) 5
def JV:D:=.sl (b8 ([3,3,7,2,7].map Lw)) 5
def xK:List (List D):=[[I 0],[I 1],[I 2],[I 3],[I 4]]
def MO:List (List bd):=[[],[⟨1,1,0,0,0,[]⟩],[⟨1,2,0,0, -1,[]⟩]]
def EP(f:FuncId)(fs cs:List D):Option (List (List D)):=match AK [(61,[.pt qU],xK)] f fs cs with
 |some x=>some x
 |none=>match fs,cs with
  |[],[.pt [e]]=>if Nat.beq f 176 then(MO.find? fun l=>wx 10 (fu l) e).map sd else none
  |_,_=>none
def xN:D:=.sl [.z,.sl [I 1] 1,.sl [I 1] 1,.z,.sl [I 1] 1] 5
def b9(f:aA):Nat->List Int:=bw (cF f)
def Dl(l:List Int):Prop:=∀ (i j:Nat) x y,i<=j->l[i]? =some x->l[j]? =some y->x<=y
end Go.Argus
namespace Go.Proofs.Tryz.K
set_option maxRecDepth 100000
theorem Ly:PCall prog 51 [.agg (ay mi)] (.tup [.pt qU,I 0]):=by
 have h:=DB Qz;rw[QA] at h;exact h
theorem Lz:SeqA prog 61 [.pt qU] [] xK:=s61 (f:=mi) (cnt:=[true,true,true,true,true]) oC
theorem RN{l:List bd}{y:List D}{d:D}(hy:y∈sd l)(hd:d∈y):Tr d:=by
 unfold sd at hy;rw[List.mem_map] at hy;obtain⟨i,_,rfl⟩:=hy;simp only[List.mem_cons,List.not_mem_nil,or_false] at hd;rcases hd with rfl|rfl
 .exact .s _
 .exact .agg (mZ _)
theorem SJ{f:FuncId}{fs cs:List D}{xs:List (List D)}(h:EP f fs cs=some xs):SeqA prog f fs cs xs/\∀ y∈xs,∀ d∈y,Tr d:=by
 unfold EP at h;split at h
 .rename_i x hx;cases h
  exact HV (fun x hx=>by
   simp only[List.mem_singleton] at hx;subst hx;refine⟨Lz,fun y hy d hd=>?_⟩;simp only[xK,List.mem_cons,List.not_mem_nil,or_false] at hy
   rcases hy with rfl|rfl|rfl|rfl|rfl<;>(simp only[List.mem_singleton] at hd;subst hd;exact .s _)) hx
 .rename_i hn;clear hn;split at h
  .rename_i e;split at h
   .rename_i hf;rw[cK] at h;obtain⟨l,hl,rfl⟩:=h;have hm:=List.mem_of_find?_eq_some hl;have he:=TJ 10 _ _ (List.find?_some (p:=fun l=>wx 10 (fu l) e) hl);subst he;have hf:f=176:=Nat.eq_of_beq_eq_true hf;subst hf
    have hlen:l.length<=100000:=by
     simp only[MO,List.mem_cons,List.not_mem_nil,or_false] at hm;rcases hm with rfl|rfl|rfl<;>decide
    refine⟨YM hlen,fun y hy d hd=>?_⟩;exact RN hy hd
   .cases h
  .cases h
noncomputable def NW:Ctx:=⟨fun f=>yj.get f,EP,Am [(51,[.agg (ay mi)],.tup [.pt qU,I 0])]⟩
theorem JW:NW.Ok prog:=⟨mixed,Dz,fun _ _ _ _ h=>SJ h,
 fun _ _ _ h=>Hc (fun x hx=>by
  simp only[List.mem_singleton] at hx;subst hx
  exact Ly) h⟩
theorem Vn:PCall prog 65 [.pt qU] (.tup [Lx,JV]):=iP JW 1000 rfl kr
end Go.Proofs.Tryz.K
namespace Go.Proofs.Tryz.K
set_option maxRecDepth 100000
open Go.Abs
theorem TK:AL 6 cT=.seq (.seq (.region 16 (Z cT 16) false) (.block 6 (.loop (.seq (.region 17 (Z cT 17) false) (.seq (.cond (.tmp 83) .skip (.exit 6)) (.seq (.block 7 (.seq (.region 18 (Z cT 18) false) (.seq (.region 19 (Z cT 19) false) (.region 20 (Z cT 20) true)))) (.region 21 (Z cT 21) false))))))) (.seq (.region 22 (Z cT 22) false) .ret):=by rw[MP];rfl
def j9:List (Nat×Row):=[(4,.cells [.z,.rs 11 0 1,.rs 9 0 1,.z,.rs 7 0 1] 27),(5,.cells [.rs 4 0 5] 28),(7,.cells [I 1] 3),(9,.cells [I 1] 3),(11,.cells [I 1] 3)]
noncomputable def NX:Option bK:=match rW 0 [.agg (ay mi)] .leaf with
 |some t=>xM (ug prog NW 1000) (xL 6 cT) ⟨t,.leaf,0⟩
 |none=>none
theorem f39:(NX.map fun s=>(cQ s.env 7,dO s.mem 4,dO s.mem 5,dO s.mem 7,dO s.mem 9,dO s.mem 11,s.nx))=some (.rp 5 0,some (.cells [.z,.rs 11 0 1,.rs 9 0 1,.z,.rs 7 0 1] 27),some (.cells [.rs 4 0 5] 28),some (.cells [I 1] 3),some (.cells [I 1] 3),some (.cells [I 1] 3),12):=kr
end Go.Proofs.Tryz.K
namespace Go.Proofs.Tryz.K
set_option maxRecDepth 10000
theorem MQ:PCall prog 89 [.z] (.tup []):=iP jO 100 rfl kr
theorem MR:PCall prog 90 [.z] .z:=iP jO 100 rfl kr
theorem w39:AW prog noY true (.seq (.seq (.region 16 (Z cT 16) false) (.block 6 (.loop (.seq (.region 17 (Z cT 17) false) (.seq (.cond (.tmp 83) .skip (.exit 6)) (.seq (.block 7 (.seq (.region 18 (Z cT 18) false) (.seq (.region 19 (Z cT 19) false) (.region 20 (Z cT 20) true)))) (.region 21 (Z cT 21) false))))))) (.seq (.region 22 (Z cT 22) false) .ret)) (retQ prog [.tmp 2,.tmp 3] fun d _=>d=.tup [xN,I 0]) ⟨ax [(7,.rp 5 0)],bc j9,12⟩:=by
 refine aB (au ?_);refine ap ?_;refine ab (bZ (fun s=>Ghost prog s ⟨ax [(7,.rp 5 0)],bc j9,12⟩) (eN (α:=Nat) (fun k=>⟨ax [(7,.rp 5 0),(81,I 5),(82,I k)],bc j9,12⟩) (fun k=>k<=5) (fun k=>5 - k) 0 (aH eH eH) (Nat.zero_le _) ?_) ?_)
 .intro k hk;refine SS ?_;refine ab ⟨_,rfl,fun h=>?_,fun h=>?_⟩
  .have al:k<5:=by have h:(k:Int)<5:=by simpa using h
                   omega
   have hc:k=0\/k=3\/k=1\/k=2\/k=4:=by omega
   rcases hc with rfl|rfl|rfl|rfl|rfl
   .have ry:=MQ;have y5:=MR;refine ws ?_;refine af ?_;refine er ?_;refine aN ?_;refine cl ry ?_;refine ab (kX wH ?_);refine bF ?_;refine cl y5 ?_;refine af ?_;refine bf bg ?_;refine af ?_;exact ab (aP (0+1) (aH eH eH) oG oG)
   .have ry:=MQ;have y5:=MR;refine ws ?_;refine af ?_;refine er ?_;refine aN ?_;refine cl ry ?_;refine ab (kX wH ?_);refine bF ?_;refine cl y5 ?_;refine af ?_;refine bf bg ?_;refine af ?_;exact ab (aP (3+1) (aH eH eH) oG oG)
   .refine ws ?_;refine af ?_;refine ab (au ?_);refine aN ?_;refine lh (ry (i:=11) (l:=[1]) oG rfl rfl oC) rfl cY fun d m' nx' hp=>?_;obtain⟨rfl,rfl,rfl⟩:=hp;refine ab (aJ (aH (l:=[(7,.rp 5 0),(12,I 1),(81,I 5),(82,I 1)]) (ml:=j9) eH eH) (kX wH ?_));refine bF ?_;refine AJ (r:=.rs 11 0 1) (ups:=[(11,some (.cells [I 1] 3))]) (rds:=[11]) (fun J U C=>?_) (fun i hi=>?_) rfl cY ?_
    .have e:=C 11 oS (by simp[j9,bc]);have e:J 11=some (.cells ([1].map I) 3):=e;refine zW e vD.he fun M=>(ym (d:=[1]) M e rfl oC).mono ?_;rintro r m' nx' ⟨h1,h2,h3⟩;exact⟨h2,h3,h1⟩
    .simp at hi;subst hi;exact⟨oS,by simp[j9,bc]⟩
    show AOps _ _ _ _ _ _ _ ⟨up _ 96 _,up (bc j9) 11 (some (.cells [I 1] 3)),_⟩ _;refine af ?_;refine bf bg ?_;refine af ?_;exact ab (aP (1+1) (aH eH eH) oG oG)
   .refine ws ?_;refine af ?_;refine ab (au ?_);refine aN ?_;refine lh (ry (i:=9) (l:=[1]) oG rfl rfl oC) rfl cY fun d m' nx' hp=>?_;obtain⟨rfl,rfl,rfl⟩:=hp;refine ab (aJ (aH (l:=[(7,.rp 5 0),(12,I 2),(81,I 5),(82,I 2)]) (ml:=j9) eH eH) (kX wH ?_));refine bF ?_;refine AJ (r:=.rs 9 0 1) (ups:=[(9,some (.cells [I 1] 3))]) (rds:=[9]) (fun J U C=>?_) (fun i hi=>?_) rfl cY ?_
    .have e:=C 9 oS (by simp[j9,bc]);have e:J 9=some (.cells ([1].map I) 3):=e;refine zW e vD.he fun M=>(ym (d:=[1]) M e rfl oC).mono ?_;rintro r m' nx' ⟨h1,h2,h3⟩;exact⟨h2,h3,h1⟩
    .simp at hi;subst hi;exact⟨oS,by simp[j9,bc]⟩
    show AOps _ _ _ _ _ _ _ ⟨up _ 96 _,up (bc j9) 9 (some (.cells [I 1] 3)),_⟩ _;refine af ?_;refine bf bg ?_;refine af ?_;exact ab (aP (2+1) (aH eH eH) oG oG)
   .refine ws ?_;refine af ?_;refine ab (au ?_);refine aN ?_;refine lh (ry (i:=7) (l:=[1]) oG rfl rfl oC) rfl cY fun d m' nx' hp=>?_;obtain⟨rfl,rfl,rfl⟩:=hp;refine ab (aJ (aH (l:=[(7,.rp 5 0),(12,I 4),(81,I 5),(82,I 4)]) (ml:=j9) eH eH) (kX wH ?_));refine bF ?_;refine AJ (r:=.rs 7 0 1) (ups:=[(7,some (.cells [I 1] 3))]) (rds:=[7]) (fun J U C=>?_) (fun i hi=>?_) rfl cY ?_
    .have e:=C 7 oS (by simp[j9,bc]);have e:J 7=some (.cells ([1].map I) 3):=e;refine zW e vD.he fun M=>(ym (d:=[1]) M e rfl oC).mono ?_;rintro r m' nx' ⟨h1,h2,h3⟩;exact⟨h2,h3,h1⟩
    .simp at hi;subst hi;exact⟨oS,by simp[j9,bc]⟩
    show AOps _ _ _ _ _ _ _ ⟨up _ 96 _,up (bc j9) 7 (some (.cells [I 1] 3)),_⟩ _;refine af ?_;refine bf bg ?_;refine af ?_;exact ab (aP (4+1) (aH eH eH) oG oG)
  .have X:¬ k<5:=by intro hh;simp at h;omega
   exact aH eH eH
 .intro s hg;refine⟨_,hg,au ?_⟩;refine ap ?_;refine ab (aJ (bj [(7,[I 1],3),(9,[I 1],3),(11,[I 1],3),(4,[.z,.sl [I 1] 1,.sl [I 1] 1,.z,.sl [I 1] 1],27)] eH (l:=[(2,xN),(3,I 0)]) ⟨?_,rfl,trivial⟩) (lT rfl rfl rfl));show sub (fz0 4 _ (prog.cellsOf 27)) (.rs 4 0 5)=_;exact lM (by rw[wu];rfl)
theorem Vo:PCall prog 39 [.agg (ay mi)] (.tup [xN,I 0]):=by
 have rz:∀ n,Tr (I n):=fun n=>.s _;have X:Tr (.tup [xN,I 0]):=lU (n:=5) rfl;refine a7 MS (.cons (.agg (fq mi)) .nil) X ?_;rw[YY];have h:=f39;unfold NX at h;cases M:rW 0 [.agg (ay mi)] .leaf with
 |none=>rw[M] at h;cases h
 |some t=>
  rw[M] at h;simp only[cK] at h;obtain⟨s,U,he⟩:=h;have qK:=GG M
  have aX:(⟨t,.leaf,0⟩:bK).st=⟨envOf [.agg (ay mi)],fun _=>none,0⟩:=by
   unfold bK.st;rw[qK,PW]
  rw[<- aX,parts_eq 6 cT]
  have hp:∃ c cs,xL 6 cT=c::cs:=by
   rw[MP];exact⟨_,_,rfl⟩
  obtain⟨c,cs,mB⟩:=hp;rw[mB] at U ⊢;refine Hd (JD JW 1000) U ?_;rw[TK];simp only[bx] at he;obtain⟨e7,e4,e5,C,e9,rD,J⟩:=he;refine⟨⟨ax [(7,.rp 5 0)],bc j9,12⟩,?_,w39⟩;have:s.st=⟨cQ s.env,dO s.mem,12⟩:=by unfold bK.st;rw[J]
  rw[this];exact aH ⟨e7,trivial⟩ ⟨e4,e5,C,e9,rD,trivial⟩
end Go.Proofs.Tryz.K
namespace Go.Proofs.Tryz.K
set_option maxRecDepth 100000
noncomputable def cx2:Ctx:=⟨fun f=>yj.get f,AK [(61,[.pt qU],xK)],Am [(51,[.agg (ay mi)],.tup [.pt qU,I 0]),(65,[.pt qU],.tup [Lx,JV]),(39,[.agg (ay mi)],.tup [xN,I 0])]⟩
theorem TL:cx2.Ok prog:=⟨mixed,Dz,fun _ _ _ _ h=>HV (fun x hx=>by
 simp only[List.mem_singleton] at hx;subst hx;refine⟨Lz,fun y hy d hd=>?_⟩;simp only[xK,List.mem_cons,List.not_mem_nil,or_false] at hy
 rcases hy with rfl|rfl|rfl|rfl|rfl<;>(simp only[List.mem_singleton] at hd;subst hd;exact .s _)) h,
 fun _ _ _ h=>Hc (fun x hx=>by
  simp only[List.mem_cons,List.not_mem_nil,or_false] at hx;rcases hx with rfl|rfl|rfl
  .exact Ly
  .exact Vn
  .exact Vo) h⟩
theorem y0:PCall prog 17 [] (B true):=iP TL 1000 rfl kr
end Go.Proofs.Tryz.K
end
namespace Go.Argus
section
variable{V:Nat->Prop}{pl N O:Nat->Nat}
end
section
variable{E:Nat->Nat->Prop}{R:Nat->Prop}{pl:Nat->Nat}
end
section
variable{beh:Nat->List Int}{n:Nat}(hb:∀ b,∀ c∈beh b,0<=c/\c.toNat<n)(hn:0<n)
include hb hn
end
section
variable{V:Nat->Prop}{plL out:List Int}{pl:Nat->Nat}{n:Nat}
end
structure yF(beh ahd:Nat->List Int)(n:Nat):Prop where
 pos:0<n
 to:∀ b,∀ c∈beh b,0<=c/\c.toNat<n
 fro:∀ (c:Nat) (a:Int),a∈ahd c↔0<=a/\a.toNat<n/\(c:Int)∈beh a.toNat
section
variable{beh ahd:Nat->List Int}{n:Nat}(h:yF beh ahd n)
include h
end
section
variable{beh ahd:Nat->List Int}{n:Nat}(h:yF beh ahd n)
include h
end
section
variable{beh ahd:Nat->List Int}{n:Nat}(h:yF beh ahd n)
include h
end
section
variable{cnt:List Bool}{ahd:Nat->List Int}{n:Nat}(y8:∀ b,∀ a∈ahd b,0<=a/\a.toNat<n)
include y8
end
section
variable{beh ahd:Nat->List Int}{n:Nat}(h:yF beh ahd n)
include h
end
end Go.Argus
namespace Go.Argus
open Go Go.Abs
def ZS(l:List Int)(j k:Nat):Prop:=(∀ p q,p<q->q<=k->p≠j->q≠j->l.getD p 0<=l.getD q 0)/\∀ q,j<q->q<=k->l.getD j 0<=l.getD q 0
def M'(l:List Int)(k:Nat):Prop:=∀ p q,p<=q->q<=k->l.getD p 0<=l.getD q 0
theorem Hn{l:List Int}{j:Nat}(h:j+1<l.length)(i:Nat):(swapAt l j).getD i 0=if i=j then l.getD (j+1) 0 else if i=j+1 then l.getD j 0 else l.getD i 0:=by
 unfold swapAt;simp only[bD,List.getElem?_set,List.length_set];by_cases e:j=i
 .subst e;rw[if_pos rfl,if_pos rfl,if_pos oG];rfl
 .rw[if_neg e,if_neg (show ¬ i=j from fun h=>e h.symm)];by_cases e2:j+1=i
  .subst e2;rw[if_pos rfl,if_pos rfl,if_pos h];rfl
  .rw[if_neg e2,if_neg (show ¬ i=j+1 from fun h=>e2 h.symm)]
theorem Jg{k:Nat}:∀ {j:Nat} {l:List Int},j<=k->k<l.length->ZS l j k->M' (lu l j) k
 |0,l,_,_,h=>fun p q J hq=>by
  rw[lu];rcases Nat.lt_or_ge p q with g|g
  .by_cases hp:p=0
   .subst hp;exact h.2 q g hq
   .exact h.1 p q g hq hp oG
  .have:p=q:=by omega
   subst this;exact Int.le_refl _
 |j+1,l,hj,hk,h=>by
  rw[lu];split
  .rename_i al;have C:=Hn (l:=l) (j:=j) oG;refine Jg oG (by simpa using hk) ⟨fun p q J hq hp M=>?_,fun q hq U=>?_⟩
   .rw[C,C,if_neg hp,if_neg M];by_cases e1:p=j+1
    .rw[if_pos e1,if_neg oG];exact h.1 j q oG hq oG oG
    .rw[if_neg e1];by_cases e2:q=j+1
     .rw[if_pos e2];exact h.1 p j oG oG e1 oG
     .rw[if_neg e2];exact h.1 p q J hq e1 e2
   .rw[C,C,if_pos rfl,if_neg oG];by_cases e2:q=j+1
    .rw[if_pos e2];omega
    .rw[if_neg e2];exact h.2 q oG U
  .rename_i X;intro p q J hq;rcases Nat.lt_or_ge p q with g|g
   .by_cases e1:p=j+1
    .subst e1;exact h.2 q g hq
    .by_cases e2:q=j+1
     .subst e2;by_cases e3:p=j
      .subst e3;omega
      .have:=h.1 p j oG oG oG oG;omega
     .exact h.1 p q g hq e1 e2
   .have:p=q:=by omega
    subst this;exact Int.le_refl _
theorem H0{i:Nat}:∀ {j:Nat} {l:List Int},j<i->j<l.length->(lu l j).getD i 0=l.getD i 0
 |0,l,_,_=>rfl
 |j+1,l,h,hl=>by
  rw[lu];split
  .rw[H0 oG oP,Hn oG,if_neg oG,if_neg oG]
  .rfl
theorem H2{l:List Int}:∀ k,k<l.length->M' (jU l k) k/\∀ i,k<i->(jU l k).getD i 0=l.getD i 0
 |0,_=>⟨fun p q J hq=>by
  have:p=q:=by omega
  subst this;exact Int.le_refl _,fun _ _=>rfl⟩
 |k+1,hk=>by
  obtain⟨h1,h2⟩:=H2 (l:=l) k oG;rw[jU];refine⟨Jg (bE _) (by simpa using hk) ⟨fun p q J hq hp C=>h1 p q oG oG,fun q hq C=>by omega⟩,fun i hi=>?_⟩;rw[H0 hi oP];exact h2 i oG
theorem OO(l:List Int):Dl (eA l):=fun i j x y C hx hy=>by
 obtain⟨hj,J⟩:=bA.1 hy;have hl:(eA l).length=l.length:=Ci l;have h:=(H2 (l:=l) (l.length - 1) oG).1 i j C oG;have e:jU l (l.length - 1)=eA l:=rfl;rw[e,bD,bD,hx,hy] at h;exact h
theorem Kp{d:List Int}(J:Dl d):∀ t,t<=d.length->(eh d t).Pairwise (·<·)/\(0<t->∀ x∈eh d t,x<=d.getD (t - 1) 0)
 |0,_=>⟨by simp[eh],fun h=>absurd h (Nat.lt_irrefl 0)⟩
 |t+1,ht=>by
  obtain⟨h1,h2⟩:=Kp J t oG
  have hg:∀ i,i<d.length->d[i]? =some (d.getD i 0):=fun i hi=>by
   have:=aL hi;rw[bD,this];rfl
  have C:∀ x∈eh d t,x<=d.getD t 0:=fun x hx=>by
   have h0:0<t:=by
    cases t with
    |zero=>simp[eh] at hx
    |succ t=>omega
   have a:=h2 h0 x hx;have b:=J (t - 1) t _ _ oG (hg _ oG) (hg _ oG);omega
  rw[eh];split
  .rw[List.append_nil];exact⟨h1,fun _ x hx=>by rw[Nat.add_sub_cancel];exact C x hx⟩
  .rename_i M;refine⟨?_,fun _ x hx=>?_⟩
   .rw[List.pairwise_append];refine⟨h1,oS,fun x hx y hy=>?_⟩;rw[List.mem_singleton] at hy;subst hy
    have h0:0<t:=by
     cases t with
     |zero=>simp[eh] at hx
     |succ t=>omega
    have a:=h2 h0 x hx;have b:=J (t - 1) t _ _ oG (hg _ oG) (hg _ oG);have c:d.getD t 0≠d.getD (t - 1) 0:=fun e=>M ⟨oG,e⟩;omega
   .rw[Nat.add_sub_cancel];rw[List.mem_append,List.mem_singleton] at hx;rcases hx with hx|hx
    .exact C x hx
    .rw[hx];exact Int.le_refl _
theorem O2{d:List Int}(C:Dl d):(iq d).Pairwise (·<·):=(Kp C _ (bE _)).1
theorem Ho(x:End):(Go.Proofs.Tryz.K.nextR x).Pairwise (·<·):=O2 (OO _)
theorem PN{b:Nat}:∀ (l:List Int) (L:Nat->List Int),l.Pairwise (·<·)->(∀ t∈l,0<=t)->(∀ i,(L i).Pairwise (·<·)/\∀ x∈L i,x<(b:Int))->
 ∀ i,(l.foldl (cO b) L i).Pairwise (·<·)/\(∀ x∈l.foldl (cO b) L i,x<(b:Int)+1):=fun l=>by
 have key:∀ (l:List Int) (L:Nat->List Int),l.Pairwise (·<·)->(∀ t∈l,0<=t)->∀ i,l.foldl (cO b) L i=L i++(if(i:Int)∈l then [(b:Int)] else []):=fun l=>by
  induction l with
  |nil=>intro L _ _ i;simp
  |cons t l ih=>
   intro L hp h0 i;rw[List.pairwise_cons] at hp;have ht:=h0 t oS;obtain⟨C,rfl⟩:=eC ht;rw[List.foldl_cons,ih _ hp.2 (fun t h=>h0 t (by simp[h]))];unfold cO;simp only[dg,up];by_cases e:i=C
   .subst e;rw[if_pos rfl,if_neg (fun h=>by have:=hp.1 _ h;omega),if_pos oS,List.append_nil]
   .rw[if_neg e];congr 1;have:¬ (i:Int)=C:=by omega
    simp[this]
 intro L hp h0 J i;rw[key l L hp h0 i];obtain⟨h1,h2⟩:=J i;split
 .refine⟨?_,fun x hx=>?_⟩
  .rw[List.pairwise_append];exact⟨h1,oS,fun x hx y hy=>by rw[List.mem_singleton] at hy;rw[hy];exact h2 x hx⟩
  .rw[List.mem_append,List.mem_singleton] at hx;rcases hx with hx|hx
   .have:=h2 x hx;omega
   .omega
 .rw[List.append_nil];exact⟨h1,fun x hx=>by have:=h2 x hx;omega⟩
theorem Ce{bs:List bu}(h0:∀ b∈bs,∀ t∈Go.Proofs.Tryz.K.nextR b.fin,0<=t):∀ k i,(bh bs k i).Pairwise (·<·)/\∀ x∈bh bs k i,x<(k:Int)
 |0,i=>by simp[bh]
 |k+1,i=>by
  have ih:=Ce h0 k;have e:bh bs (k+1)=lV bs (bh bs k) k:=by rw[bh,List.range_succ,List.foldl_append];rfl
  rw[e];unfold lV;cases hx:bs[k]? with
  |none=>exact⟨(ih i).1,fun x hx=>by have:=(ih i).2 x hx;omega⟩
  |some b=>
   obtain⟨h1,h2⟩:=PN (b:=k) (Go.Proofs.Tryz.K.nextR b.fin) (bh bs k) (Ho _) (h0 b (cg hx)) ih i;exact⟨h1,fun x hx=>by have:=h2 x hx;omega⟩
end Go.Argus
section
open Go Go.Abs Go.Proofs Go.Argus
namespace Go.Argus
def SL(p:Int×List Int):List D:=[I p.1,aC p.2]
@[simp] theorem abG (p : Int × List Int) : (SL p).length = 2 := rfl
def pH(f:aA):D:=if dV f=0 then .tup [aC (ky (b9 f) f.blocks.length),I 0] else .tup [.z,I (dV f)]
theorem Ch(f:aA):Tr (pH f):=by
 unfold pH;split
 .exact .tup (.cons (cW _) (.cons (.s _) .nil))
 .exact .tup (.cons .z (.cons (.s _) .nil))
def nj(f:aA):D:=if dV f=0 then .tup [c6 (dH (b9 f) f.blocks.length (-1)),I 0] else .tup [.z,I (dV f)]
theorem HX(f:aA):Tr (nj f):=by
 unfold nj;split
 .exact .tup (.cons (.sl (.map fun _=>.s _)) (.cons (.s _) .nil))
 .exact .tup (.cons .z (.cons (.s _) .nil))
end Go.Argus
namespace Go.Proofs.Tryz.K
set_option maxRecDepth 10000
theorem SM{f:aA}(C:dV f≠0):PCall prog 33 [.agg (ay f)] (pH f):=by
 have J:=It C;refine a7 ES (.cons (.agg (fq f)) .nil) (Ch f) ?_;rw[pH,if_neg C];generalize dV f=e at J C;have ja:(e !=0)=true:=by simpa using C
 rw[MW];refine au ?_;refine ap ?_;refine ab (aJ (bj [(0,ay f,26)] eH (l:=[(1,.pt (ay f))]) eH) (aj ?_));refine SS ?_;refine cl J ?_;refine SS ?_;refine NY ?_;refine ap ?_;refine ab (aB (aj ?_));refine af ?_;refine ab (np ?_);refine aB (aj ?_);refine ap ?_;exact ab (di (lT rfl rfl rfl))
theorem TM{f:aA}(C:dV f=0):PCall prog 33 [.agg (ay f)] (pH f):=by
 have X:=DB C
 have hf:iu f=true:=by
  unfold dV at C;split at C
  .assumption
  .cases C
 have J:=Al hf;have M:=J.qh;refine a7 ES (.cons (.agg (fq f)) .nil) (Ch f) ?_;rw[pH,if_pos C];have rC:vd f=eS f (cF f) (dI f.blocks) (c6 (dH (b9 f) f.blocks.length (-1))):=rfl;have zg:=zg (f:=f) (beh:=cF f) (ahd:=dI f.blocks) (c:=c6 (dH (b9 f) f.blocks.length (-1))) (.sl (.map fun _=>.s _)) rfl (n:=f.blocks.length) (by simp[cF]) rfl J.pos oG (beh_in J) (Is J);rw[<- rC] at zg;have U:ky (b9 f) f.blocks.length=ky (bw (cF f)) f.blocks.length:=rfl;rw[U];generalize ky (bw (cF f)) f.blocks.length=O at zg ⊢;rw[MW];refine au ?_;refine ap ?_;refine ab (aJ (bj [(0,ay f,26)] eH (l:=[(1,.pt (ay f))]) eH) (aj ?_));refine SS ?_;refine cl X ?_;refine SS ?_;refine NZ ?_;refine ap ?_;refine ab (aB (aj ?_));refine af ?_;refine ab (oc (cu (au ?_)));refine SS ?_;refine xV zg rfl cY ?_;refine af ?_;refine ab ⟨_,mU (i:=1) (e:=3) (cs:=O.map I) (l:=[(2,aC O),(3,I 0)]) (ml:=[]) rfl ⟨?_,rfl,trivial⟩ trivial,lT rfl rfl rfl⟩;exact lM (by rw[c3];simp)
theorem ru{f:aA}:PCall prog 33 [.agg (ay f)] (pH f):=by
 by_cases h:dV f=0
 .exact TM h
 .exact SM h
theorem SN{f:aA}(C:dV f≠0):PCall prog 31 [.agg (ay f)] (nj f):=by
 have J:=It C;refine a7 MX (.cons (.agg (fq f)) .nil) (HX f) ?_;rw[nj,if_neg C];generalize dV f=e at J C;have ja:(e !=0)=true:=by simpa using C
 rw[MY];refine au ?_;refine ap ?_;refine ab (aJ (bj [(0,ay f,26)] eH (l:=[(1,.pt (ay f))]) eH) (aj ?_));refine SS ?_;refine cl J ?_;refine SS ?_;refine NY ?_;refine ap ?_;refine ab (aB (aj ?_));refine af ?_;refine ab (np ?_);refine aB (aj ?_);refine ap ?_;exact ab (di (lT rfl rfl rfl))
theorem TN{f:aA}(J:dV f=0):PCall prog 31 [.agg (ay f)] (nj f):=by
 have C:=DB J;refine a7 MX (.cons (.agg (fq f)) .nil) (HX f) ?_;rw[nj,if_pos J];have M:vd f=eS f (cF f) (dI f.blocks) (c6 (dH (b9 f) f.blocks.length (-1))):=rfl;rw[M] at C;generalize dH (b9 f) f.blocks.length (-1)=R at C ⊢;rw[MY];refine au ?_;refine ap ?_;refine ab (aJ (bj [(0,ay f,26)] eH (l:=[(1,.pt (ay f))]) eH) (aj ?_));refine SS ?_;refine cl C ?_;refine SS ?_;refine NZ ?_;refine ap ?_;refine ab (aB (aj ?_));refine af ?_;refine ab (oc (cu (aj ?_)));refine bF ?_;exact ab (lT rfl rfl rfl)
theorem rm{f:aA}:PCall prog 31 [.agg (ay f)] (nj f):=by
 by_cases h:dV f=0
 .exact TN h
 .exact SN h
end Go.Proofs.Tryz.K
end
namespace Go.Argus
open Go Go.Abs
open Go.Proofs.Tryz.K (nextR)
structure eu(w:List Int):Prop where
 len:w.length=20
 all:eP w
theorem eu.fA{w:List Int}(h:eu w)(n:Int):eu (fA w n):=⟨by simp[h.len],GM h.all⟩
theorem eP.dW{w v:List Int}(h:eP w)(hv:eP v):∀ k,eP (dW w v k)
 |0=>h
 |k+1=>(eP.dW h hv k).set (G4 ((eP.dW h hv k).get _)).1
theorem Hp{w v:List Int}(h:eP w)(hv:eP v):∀ k,k<=w.length->∀ r,dD (dW w v k) r=(dD w r&&(dD v r|| !decide (r / 64<k)))
 |0,_,r=>by simp[Argus.dW]
 |k+1,hk,r=>by
  have ih:=Hp h hv k oG;rw[Argus.dW,Jh oP];split
  .rename_i e;have h1:=ih r;have h2:¬ r / 64<k:=by omega
   simp only[h2,decide_false,Bool.not_false,Bool.or_true,Bool.and_true] at h1;unfold dD at h1;rw[e] at h1;rw[Kq ((eP.dW h hv k).get _) (hv.get _),h1];unfold dD;rw[e];simp
  .rename_i e;rw[ih r];have:decide (r / 64<k)=decide (r / 64<k+1):=decide_eq_decide.2 oG;rw[this]
theorem CO{w v:List Int}(C:eu w)(hv:eu v)(r:Nat):dD (fB w v) r=(dD w r&&dD v r):=by
 unfold fB;rw[Hp C.all hv.all 20 (by rw[C.len];exact bE _)];by_cases hr:r / 64<20
 .simp[hr]
 .have:dD w r=false:=by
   unfold dD;rw[bD,List.getElem?_eq_none (by rw[C.len];omega)];simp
  simp[this]
theorem eu.E0{w v:List Int}(C:eu w)(hv:eu v):eu (fB w v):=⟨by simp[C.len],C.all.dW hv.all 20⟩
theorem zM{α:Type}{f:CS->α->CS}(hk:∀ s a,s.ch=true->(f s a).ch=true)(hn:∀ s a,(f s a).ch=false->f s a=s):∀ (l:List α) (s:CS),(l.foldl f s).ch=false->l.foldl f s=s/\∀ a∈l,f s a=s
 |[],s,_=>⟨rfl,fun a ha=>by simp at ha⟩
 |a::l,s,h=>by
  obtain⟨h1,h2⟩:=zM hk hn l (f s a) h;have h3:f s a=s:=hn s a (by rw[<- h1];exact h);rw[h3] at h1 h2;refine⟨by rw[List.foldl_cons,h3];exact h1,fun b hb=>?_⟩;rcases List.mem_cons.1 hb with rfl|hb
  .exact h3
  .exact h2 b hb
theorem H3{α:Type}{f:CS->α->CS}(hk:∀ s a,s.ch=true->(f s a).ch=true):∀ (l:List α) (s:CS),s.ch=true->(l.foldl f s).ch=true
 |[],_,h=>h
 |a::l,s,h=>H3 hk l (f s a) (hk s a h)
theorem DD{x:End}{w:List Int}(s:CS)(t:Int)(h:s.ch=true):(bY x w s t).ch=true:=by
 unfold bY;split
 .rfl
 .exact h
theorem Kr{x:End}{w:List Int}(s:CS)(t:Int)(h:(bY x w s t).ch=false):bY x w s t=s:=by
 unfold bY at h ⊢;split
 .rename_i hc;rw[if_pos hc] at h;cases h
 .rfl
theorem R4{bs:List bu}(s:CS)(k:Nat)(h:s.ch=true):(cZ bs s k).ch=true:=by
 unfold cZ;split
 .exact h
 .split
  .exact H3 DD _ s h
  .exact h
theorem R5{bs:List bu}(s:CS)(k:Nat)(h:(cZ bs s k).ch=false):cZ bs s k=s:=by
 unfold cZ at h ⊢;split
 .rfl
 .rename_i x hx;rw[hx] at h;simp only at h;split
  .rename_i hr;rw[if_pos hr] at h;exact(zM DD Kr _ s h).1
  .rfl
structure Na(bs:List bu)(s:CS):Prop where
 fix:∀ b x,bs[b]? =some x->s.re.getD b false=true->∀ t∈nextR x.fin,s.re.getD t.toNat false=true/\fB (s.ws.getD t.toNat []) (eW x.fin t (gm x (s.ws.getD b [])).1)=s.ws.getD t.toNat []
theorem R6{bs:List bu}{s:CS}(h:(gX bs s).ch=false):gX bs s=⟨s.ws,s.re,false⟩/\Na bs (gX bs s):=by
 obtain⟨h1,h2⟩:=zM (R4 (bs:=bs)) (R5 (bs:=bs)) (List.range bs.length) ⟨s.ws,s.re,false⟩ h;have e:gX bs s=⟨s.ws,s.re,false⟩:=h1;refine⟨e,⟨fun b x hx hr t ht=>?_⟩⟩;rw[e] at hr ⊢;have h3:=h2 b (List.mem_range.2 (bA.1 hx).1);have h4:(cZ bs ⟨s.ws,s.re,false⟩ b).ch=false:=by rw[h3]
 unfold cZ at h3 h4;rw[hx] at h3 h4;simp only at h3 h4 hr;rw[if_pos hr] at h3 h4;have h5:=(zM DD Kr _ _ h4).2 t ht;have C:(bY x.fin (gm x (s.ws.getD b [])).1 ⟨s.ws,s.re,false⟩ t).ch=false:=by rw[h5]
 unfold bY at C;split at C
 .cases C
 .rename_i hc;have hc:=not_or.1 hc;refine⟨by simpa using hc.1,Classical.byContradiction fun J=>hc.2 J⟩
theorem H4{bs:List bu}{n:Nat}{J:CS->Prop}(hb:∀ b∈bs,oe n b)(C:∀ s,eB n s->J s->J (gX bs s)):∀ (k:Nat) (s:CS),eB n s->J s->mL s<k->eB n (jE bs k s)/\Na bs (jE bs k s)/\J (jE bs k s)
 |0,s,_,_,h=>absurd h (Nat.not_lt_zero _)
 |k+1,s,hs,hj,h=>by
  obtain⟨M,U⟩:=wC hb hs;unfold jE;split
  .rename_i hc;refine H4 hb C k _ M (C s hs hj) ?_;unfold kQ at U;rw[if_pos hc] at U;omega
  .rename_i hc;exact⟨M,(R6 (by simpa using hc)).2,C s hs hj⟩
theorem R7{bs:List bu}{n:Nat}{J:CS->Prop}(hb:∀ b∈bs,oe n b)(h0:∀ s,J s->J ⟨s.ws,s.re,false⟩)(M:∀ s k,eB n s->J s->J (cZ bs s k)){s:CS}(C:eB n s)(h:J s):J (gX bs s):=by
 unfold gX
 have:∀ (l:List Nat) (s:CS),eB n s->J s->J (l.foldl (cZ bs) s):=fun l=>by
  induction l with
  |nil=>exact fun s _ h=>h
  |cons a l ih=>exact fun s C h=>ih _ (CF hb C).1 (M s a C h)
 exact this _ _ ⟨C.lw,C.lr,C.gV,C.rg⟩ (h0 s h)
theorem S0{bs:List bu}{n:Nat}{J:CS->Prop}(hb:∀ b∈bs,oe n b){s:CS}{k:Nat}(X:eB n s)(h:J s)
 (C:∀ x,bs[k]? =some x->s.re.getD k false=true->∀ u,eB n u->J u->∀ t∈nextR x.fin,J (bY x.fin (gm x (s.ws.getD k [])).1 u t)):J (cZ bs s k):=by
 unfold cZ;split
 .exact h
 .rename_i x hx;split
  .rename_i hr;have C:=C x hx hr;have U:=(hb x (cg hx)).to;generalize (gm x (s.ws.getD k [])).1=w at C
   have:∀ (l:List Int),(∀ t∈l,t∈nextR x.fin)->∀ u,eB n u->J u->J (l.foldl (bY x.fin w) u):=fun l=>by
    induction l with
    |nil=>exact fun _ u _ h=>h
    |cons a l ih=>exact fun hl u M h=>ih (fun t ht=>hl t (by simp[ht])) _ (zw M (U a (hl a oS))).1 (C u M h a (hl a oS))
   exact this _ (fun _ h=>h) s X h
  .exact h
theorem eB.jA{n:Nat}{s:CS}(h:eB n s){b:Nat}(hb:b<n):eu (s.ws.getD b []):=by
 have hl:b<s.ws.length:=by rw[h.lw];exact hb
 have hx:s.ws[b]? =some s.ws[b]:=aL hl;rw[getD_some hx];have hm:s.ws[b]∈s.ws:=bR _;exact⟨h.gV _ hm,h.rg _ hm⟩
section
variable{bs:List bu}{args:Nat}(hb:∀ b∈bs,oe bs.length b)
include hb
end
end Go.Argus
namespace Go.Proofs.Tryz.K
open Go.Abs
theorem QP:drawInfo (Z dy 16)=some [(17,19)]:=kr
theorem QQ:drawInfo (Z dy 18)=some [(0,2)]:=kr
theorem QR:drawInfo (Z dy 26)=some [(0,9)]:=kr
theorem QS:drawInfo (Z dy 27)=some []:=kr
theorem QT:drawInfo (Z dy 29)=some [(0,7)]:=kr
theorem Zc:dy=(S1 (G1 dy 0) (S1 (G1 dy 1) (S1 (S1 (G1 dy 2) (C1 17 (S1 (G1 dy 3) .ret) K1)) (S1 (G1 dy 4) (S1 (G1 dy 5) (S1 (S1 (G1 dy 6) (B1 0 (.loop (S1 (S1 (G1 dy 7) (C1 26 K1 (X1 0))) (S1 (B1 1 (S1 (S1 (G1 dy 9) (C1 33 (X1 1) K1)) (S1 (G1 dy 10) (S1 (G1 dy 11) (S1 (S1 (G1 dy 12) (B1 2 (.loop (S1 (S1 (G1 dy 13) (C1 47 K1 (X1 2))) (S1 (B1 3 (S1 (G1 dy 15) (S1 (S1 (G2 dy 16) (C1 76 (S1 (G1 dy 17) .ret) K1)) (S1 (G2 dy 18) (S1 (S1 (G1 dy 19) (C1 83 (G1 dy 20) K1)) (S1 (G1 dy 21) (B1 4 (.loop (S1 (S1 (G1 dy 22) (C1 101 K1 (X1 4))) (S1 (B1 5 (S1 (G1 dy 24) (S1 (S1 (G1 dy 25) (C1 115 (X1 5) K1)) (S1 (G2 dy 26) (S1 (G2 dy 27) (C1 136 (S1 (G1 dy 28) .ret) K1)))))) (G1 dy 23))))))))))) (G1 dy 14)))))) (S1 (G2 dy 29) (C1 146 (S1 (G1 dy 30) .ret) K1))))))) (G1 dy 8)))))) (S1 (G1 dy 31) .ret))))))):=kr
theorem RT:drawInfo (Z ld 9)=some [(3,14),(4,14)]:=kr
theorem Y8:ld=(S1 (G1 ld 0) (S1 (G1 ld 1) (S1 (S1 (G1 ld 2) (B1 0 (.loop (S1 (S1 (G1 ld 3) (C1 15 K1 (X1 0))) (S1 (B1 1 (S1 (G1 ld 5) (S1 (G1 ld 6) (B1 2 (.loop (S1 (S1 (G1 ld 7) (C1 24 K1 (X1 2))) (S1 (B1 3 (G2 ld 9)) (G1 ld 8)))))))) (G1 ld 4)))))) (S1 (G1 ld 10) .ret)))):=kr
theorem Y6:pL=(S1 (G1 pL 0) (S1 (G1 pL 1) (S1 (G1 pL 2) (S1 (S1 (G1 pL 3) (B1 0 (.loop (S1 (S1 (G1 pL 4) (C1 18 K1 (X1 0))) (S1 (B1 1 (G1 pL 6)) (G1 pL 5)))))) (S1 (G1 pL 7) .ret))))):=kr
theorem Y4:pM=(S1 (G1 pM 0) (S1 (G1 pM 1) (S1 (B1 0 (.loop (S1 (S1 (G1 pM 2) (C1 18 K1 (X1 0))) (B1 1 (G1 pM 3))))) (S1 (S1 (G1 pM 4) (C1 32 (S1 (G1 pM 5) .ret) K1)) (S1 (G1 pM 6) (S1 (G1 pM 7) .ret)))))):=kr
theorem Py:drawInfo (Z dk 12)=some []:=kr
theorem Pz:drawInfo (Z dk 26)=some []:=kr
theorem Wh:dk=(S1 (G1 dk 0) (S1 (G1 dk 1) (S1 (S1 (G1 dk 2) (C1 18 (S1 (G1 dk 3) .ret) K1)) (S1 (G1 dk 4) (S1 (S1 (G1 dk 5) (B1 0 (.loop (S1 (S1 (G1 dk 6) (C1 25 K1 (X1 0))) (S1 (B1 1 (S1 (G1 dk 8) (S1 (G1 dk 9) (B1 2 (.loop (S1 (S1 (G1 dk 10) (C1 38 K1 (X1 2))) (S1 (B1 3 (S1 (G2 dk 12) (S1 (G1 dk 13) (C1 48 (S1 (G1 dk 14) .ret) K1)))) (G1 dk 11)))))))) (G1 dk 7)))))) (S1 (G1 dk 15) (S1 (G1 dk 16) (S1 (S1 (G1 dk 17) (B1 4 (.loop (S1 (S1 (G1 dk 18) (C1 60 K1 (X1 4))) (S1 (B1 5 (S1 (G1 dk 20) (S1 (S1 (G1 dk 21) (C1 71 (S1 (G1 dk 22) .ret) K1)) (S1 (S1 (G1 dk 23) (B1 6 (.loop (S1 (S1 (G1 dk 24) (C1 75 K1 (X1 6))) (S1 (B1 7 (S1 (G2 dk 26) (C1 106 (S1 (G1 dk 27) .ret) K1))) (G1 dk 25)))))) (S1 (G1 dk 28) (S1 (G1 dk 29) (S1 (S1 (G1 dk 30) (C1 117 (S1 (G1 dk 31) .ret) K1)) (S1 (G1 dk 32) (C1 120 (S1 (S1 (G1 dk 33) (C1 125 (S1 (G1 dk 34) .ret) K1)) (G1 dk 35)) K1))))))))) (G1 dk 19)))))) (S1 (G1 dk 36) .ret))))))))):=kr
theorem PG:drawInfo (Z dm 19)=some []:=kr
theorem PH:drawInfo (Z dm 25)=some [(0,8)]:=kr
theorem PI:drawInfo (Z dm 30)=some []:=kr
theorem PJ:drawInfo (Z dm 32)=some []:=kr
theorem Wt:dm=(S1 (G1 dm 0) (S1 (G1 dm 1) (S1 (G1 dm 2) (S1 (S1 (G1 dm 3) (B1 0 (.loop (S1 (S1 (G1 dm 4) (C1 30 K1 (X1 0))) (S1 (B1 1 (G1 dm 6)) (G1 dm 5)))))) (S1 (G1 dm 7) (S1 (S1 (G1 dm 8) (B1 2 (.loop (S1 (S1 (G1 dm 9) (C1 45 K1 (X1 2))) (S1 (B1 3 (G1 dm 11)) (G1 dm 10)))))) (S1 (S1 (G1 dm 12) (B1 4 (.loop (S1 (S1 (G1 dm 13) (C1 54 K1 (X1 4))) (B1 5 (S1 (G1 dm 14) (S1 (G1 dm 15) (B1 6 (.loop (S1 (S1 (G1 dm 16) (C1 58 K1 (X1 6))) (S1 (B1 7 (S1 (S1 (G1 dm 18) (C1 65 (X1 7) K1)) (S1 (G2 dm 19) (S1 (G1 dm 20) (S1 (G1 dm 21) (B1 8 (.loop (S1 (S1 (G1 dm 22) (C1 79 K1 (X1 8))) (S1 (B1 9 (S1 (G1 dm 24) (S1 (G2 dm 25) (S1 (G1 dm 26) (S1 (S1 (G1 dm 27) (B1 10 (.loop (S1 (S1 (G1 dm 28) (C1 106 K1 (X1 10))) (S1 (B1 11 (G2 dm 30)) (G1 dm 29)))))) (S1 (G1 dm 31) (C1 124 (S1 (G2 dm 32) (G1 dm 33)) K1))))))) (G1 dm 23)))))))))) (G1 dm 17)))))))))))) (S1 (G1 dm 34) .ret)))))))):=kr
theorem QF:drawInfo (Z pB 4)=some []:=kr
theorem VT:pB=(S1 (G1 pB 0) (S1 (S1 (G1 pB 1) (B1 0 (.loop (S1 (S1 (G1 pB 2) (C1 9 K1 (X1 0))) (S1 (B1 1 (S1 (G2 pB 4) (C1 20 (S1 (G1 pB 5) .ret) K1))) (G1 pB 3)))))) (S1 (G1 pB 6) .ret))):=kr
theorem V1:dY=(S1 (G1 dY 0) (S1 (S1 (G1 dY 1) (B1 0 (S1 (S1 (G1 dY 2) (C1 5 K1 (S1 (G1 dY 3) (C1 5 K1 (S1 (G1 dY 4) (C1 5 K1 (S1 (G1 dY 5) (C1 5 K1 (S1 (G1 dY 6) (C1 5 K1 (S1 (G1 dY 7) (C1 5 K1 (S1 (G1 dY 8) (C1 5 K1 (S1 (G1 dY 9) (C1 5 K1 (G1 dY 10))))))))))))))))) (C1 5 (S1 (G1 dY 11) .ret) (S1 (S1 (G1 dY 12) (C1 18 K1 (S1 (G1 dY 13) (C1 18 K1 (S1 (G1 dY 14) (C1 18 K1 (S1 (G1 dY 15) (C1 18 K1 (S1 (G1 dY 16) (C1 18 K1 (S1 (G1 dY 17) (C1 18 K1 (S1 (G1 dY 18) (C1 18 K1 (S1 (G1 dY 19) (C1 18 K1 (S1 (G1 dY 20) (C1 18 K1 (S1 (G1 dY 21) (C1 18 K1 (S1 (G1 dY 22) (C1 18 K1 (S1 (G1 dY 23) (C1 18 K1 (G1 dY 24))))))))))))))))))))))))) (C1 18 (S1 (G1 dY 25) .ret) (S1 (G1 dY 26) (C1 37 (S1 (G1 dY 27) .ret) (S1 (G1 dY 28) (C1 43 (S1 (G1 dY 29) .ret) K1)))))))))) (S1 (G1 dY 30) .ret))):=kr
theorem QG:drawInfo (Z qw 3)=some [(2,3),(2,4),(0,5),(1,5)]:=kr
theorem VV:qw=(S1 (G1 qw 0) (S1 (S1 (G1 qw 1) (C1 7 (S1 (G1 qw 2) .ret) K1)) (S1 (G2 qw 3) (S1 (G1 qw 4) (S1 (G1 qw 5) .ret))))):=kr
theorem VX:eU=(S1 (G1 eU 0) (S1 (S1 (G1 eU 1) (B1 0 (S1 (S1 (G1 eU 2) (C1 5 K1 (S1 (G1 eU 3) (C1 5 K1 (S1 (G1 eU 4) (C1 5 K1 (S1 (G1 eU 5) (C1 5 K1 (S1 (G1 eU 6) (C1 5 K1 (S1 (G1 eU 7) (C1 5 K1 (S1 (G1 eU 8) (C1 5 K1 (S1 (G1 eU 9) (C1 5 K1 (S1 (G1 eU 10) (C1 5 K1 (S1 (G1 eU 11) (C1 5 K1 (S1 (G1 eU 12) (C1 5 K1 (S1 (G1 eU 13) (C1 5 K1 (S1 (G1 eU 14) (C1 5 K1 (S1 (G1 eU 15) (C1 5 K1 (S1 (G1 eU 16) (C1 5 K1 (S1 (G1 eU 17) (C1 5 K1 (S1 (G1 eU 18) (C1 5 K1 (S1 (G1 eU 19) (C1 5 K1 (S1 (G1 eU 20) (C1 5 K1 (S1 (G1 eU 21) (C1 5 K1 (S1 (G1 eU 22) (C1 5 K1 (G1 eU 23))))))))))))))))))))))))))))))))))))))))))) (C1 5 (S1 (G1 eU 24) .ret) K1)))) (S1 (G1 eU 25) .ret))):=kr
theorem PC:drawInfo (Z k8 10)=some [(0,2)]:=kr
theorem Wr:k8=(S1 (G1 k8 0) (S1 (G1 k8 1) (S1 (G1 k8 2) (S1 (G1 k8 3) (S1 (S1 (G1 k8 4) (B1 0 (.loop (S1 (S1 (G1 k8 5) (C1 24 K1 (X1 0))) (S1 (B1 1 (G1 k8 7)) (G1 k8 6)))))) (S1 (S1 (G1 k8 8) (C1 52 (S1 (G1 k8 9) .ret) K1)) (S1 (G2 k8 10) .ret))))))):=kr
theorem QL:drawInfo (Z lR 5)=some [(0,5)]:=kr
theorem QM:drawInfo (Z lR 7)=some []:=kr
theorem Wp:lR=(S1 (G1 lR 0) (S1 (G1 lR 1) (S1 (S1 (G1 lR 2) (B1 0 (.loop (S1 (S1 (G1 lR 3) (C1 18 K1 (X1 0))) (S1 (B1 1 (S1 (G2 lR 5) (S1 (G1 lR 6) (C1 33 (G2 lR 7) K1)))) (G1 lR 4)))))) (S1 (G1 lR 8) .ret)))):=kr
theorem V3:iS=(S1 (G1 iS 0) (S1 (S1 (G1 iS 1) (B1 0 (S1 (S1 (G1 iS 2) (C1 5 K1 (S1 (G1 iS 3) (C1 5 K1 (G1 iS 4))))) (C1 5 (S1 (G1 iS 5) .ret) (S1 (G1 iS 6) (C1 12 (S1 (S1 (G1 iS 7) (C1 16 (S1 (G1 iS 8) .ret) K1)) (S1 (G1 iS 9) .ret)) (S1 (G1 iS 10) (C1 20 (S1 (G1 iS 11) .ret) (S1 (S1 (G1 iS 12) (C1 25 K1 (G1 iS 13))) (C1 25 (S1 (G1 iS 14) .ret) K1)))))))))) (S1 (G1 iS 15) .ret))):=kr
theorem VS:ku=(S1 (G1 ku 0) (S1 (G1 ku 1) (S1 (S1 (G1 ku 2) (C1 12 (G1 ku 3) K1)) (S1 (S1 (G1 ku 4) (C1 25 (G1 ku 5) K1)) (S1 (S1 (G1 ku 6) (B1 0 (.loop (S1 (S1 (G1 ku 7) (C1 35 K1 (X1 0))) (S1 (B1 1 (G1 ku 9)) (G1 ku 8)))))) (S1 (S1 (G1 ku 10) (C1 49 (G1 ku 11) K1)) (S1 (G1 ku 12) .ret))))))):=kr
theorem VZ:m8=(S1 (G1 m8 0) (S1 (S1 (G1 m8 1) (B1 0 (S1 (G1 m8 2) (C1 5 (S1 (G1 m8 3) .ret) (S1 (S1 (G1 m8 4) (C1 10 K1 (G1 m8 5))) (C1 10 (S1 (G1 m8 6) .ret) (S1 (G1 m8 7) (C1 15 (S1 (G1 m8 8) .ret) K1)))))))) (S1 (G1 m8 9) .ret))):=kr
theorem Ps:drawInfo (Z gp 16)=some []:=kr
theorem V5:gp=(S1 (G1 gp 0) (S1 (S1 (G1 gp 1) (C1 58 (S1 (G1 gp 2) .ret) K1)) (S1 (S1 (G1 gp 3) (B1 0 (.loop (S1 (S1 (G1 gp 4) (C1 63 K1 (X1 0))) (S1 (B1 1 (S1 (G1 gp 6) (C1 93 (S1 (G1 gp 7) .ret) K1))) (G1 gp 5)))))) (S1 (S1 (G1 gp 8) (B1 2 (.loop (S1 (S1 (G1 gp 9) (C1 98 K1 (X1 2))) (S1 (B1 3 (S1 (G1 gp 11) (C1 114 (S1 (G1 gp 12) .ret) K1))) (G1 gp 10)))))) (S1 (S1 (G1 gp 13) (B1 4 (.loop (S1 (S1 (G1 gp 14) (C1 119 K1 (X1 4))) (S1 (B1 5 (S1 (G2 gp 16) (C1 146 (S1 (G1 gp 17) .ret) K1))) (G1 gp 15)))))) (S1 (G1 gp 18) .ret)))))):=kr
theorem VC:Ae=(S1 (G1 Ae 0) (S1 (G1 Ae 1) .ret)):=kr
theorem Pt:drawInfo (Z cH 35)=some []:=kr
theorem Pu:drawInfo (Z cH 40)=some []:=kr
theorem V':cH=(S1 (G1 cH 0) (S1 (S1 (G1 cH 1) (B1 0 (S1 (G1 cH 2) (C1 10 (S1 (G1 cH 3) .ret) (S1 (G1 cH 4) (C1 25 (S1 (G1 cH 5) .ret) (S1 (S1 (G1 cH 6) (C1 37 K1 (S1 (G1 cH 7) (C1 37 K1 (S1 (G1 cH 8) (C1 37 K1 (G1 cH 9))))))) (C1 37 (S1 (G1 cH 10) .ret) (S1 (G1 cH 11) (C1 62 (S1 (G1 cH 12) .ret) (S1 (G1 cH 13) (C1 80 (S1 (G1 cH 14) .ret) (S1 (G1 cH 15) (C1 96 (S1 (G1 cH 16) .ret) (S1 (G1 cH 17) (C1 111 (S1 (G1 cH 18) .ret) (S1 (G1 cH 19) (C1 138 (S1 (G1 cH 20) .ret) (S1 (G1 cH 21) (C1 159 (S1 (G1 cH 22) .ret) (S1 (S1 (G1 cH 23) (C1 180 K1 (G1 cH 24))) (C1 180 (S1 (G1 cH 25) .ret) (S1 (G1 cH 26) (C1 197 (S1 (G1 cH 27) .ret) (S1 (G1 cH 28) (C1 207 (S1 (G1 cH 29) .ret) (S1 (G1 cH 30) (C1 217 (S1 (G1 cH 31) .ret) (S1 (G1 cH 32) (C1 229 (S1 (G1 cH 33) .ret) (S1 (G1 cH 34) (C1 241 (S1 (S1 (G2 cH 35) (C1 268 (S1 (G1 cH 36) .ret) K1)) (S1 (S1 (G1 cH 37) (B1 1 (.loop (S1 (S1 (G1 cH 38) (C1 273 K1 (X1 1))) (S1 (B1 2 (S1 (G2 cH 40) (C1 285 (S1 (G1 cH 41) .ret) K1))) (G1 cH 39)))))) (S1 (G1 cH 42) .ret))) K1)))))))))))))))))))))))))))))))) (S1 (G1 cH 43) .ret))):=kr
theorem Pw:drawInfo (Z eV 10)=some []:=kr
theorem Px:drawInfo (Z eV 22)=some []:=kr
theorem Wf:eV=(S1 (G1 eV 0) (S1 (G1 eV 1) (S1 (S1 (G1 eV 2) (B1 0 (S1 (G1 eV 3) (C1 10 (S1 (G1 eV 4) .ret) (S1 (G1 eV 5) (C1 20 (S1 (G1 eV 6) .ret) (S1 (G1 eV 7) (C1 42 (S1 (S1 (G1 eV 8) (C1 50 (S1 (G1 eV 9) .ret) K1)) (S1 (G2 eV 10) .ret)) (S1 (G1 eV 11) (C1 77 (S1 (G1 eV 12) .ret) (S1 (G1 eV 13) (C1 86 (S1 (G1 eV 14) .ret) (S1 (G1 eV 15) (C1 107 (S1 (G1 eV 16) .ret) (S1 (G1 eV 17) (C1 150 (S1 (G1 eV 18) .ret) (S1 (G1 eV 19) (C1 183 (S1 (G1 eV 20) .ret) (S1 (G1 eV 21) (C1 216 (S1 (G2 eV 22) .ret) K1)))))))))))))))))))) (S1 (G1 eV 23) .ret)))):=kr
theorem QK:drawInfo (Z k9 9)=some []:=kr
theorem Wn:k9=(S1 (G1 k9 0) (S1 (S1 (G1 k9 1) (C1 8 (S1 (G1 k9 2) .ret) K1)) (S1 (S1 (G1 k9 3) (C1 11 (S1 (G1 k9 4) .ret) K1)) (S1 (G1 k9 5) (S1 (S1 (G1 k9 6) (B1 0 (.loop (S1 (S1 (G1 k9 7) (C1 22 K1 (X1 0))) (S1 (B1 1 (G2 k9 9)) (G1 k9 8)))))) (S1 (G1 k9 10) .ret)))))):=kr
theorem Vy:qx=(S1 (G1 qx 0) (S1 (S1 (G1 qx 1) (B1 0 (.loop (S1 (S1 (G1 qx 2) (C1 7 K1 (X1 0))) (S1 (B1 1 (S1 (G1 qx 4) (C1 19 (S1 (G1 qx 5) .ret) K1))) (G1 qx 3)))))) (S1 (G1 qx 6) .ret))):=kr
theorem Vw:Af=(S1 (G1 Af 0) (S1 (G1 Af 1) .ret)):=kr
theorem VA:qy=(S1 (G1 qy 0) (S1 (S1 (G1 qy 1) (B1 0 (.loop (S1 (S1 (G1 qy 2) (C1 7 K1 (X1 0))) (S1 (B1 1 (S1 (G1 qy 4) (C1 31 (S1 (G1 qy 5) .ret) K1))) (G1 qy 3)))))) (S1 (G1 qy 6) .ret))):=kr
theorem VO:iU=(S1 (G1 iU 0) (S1 (S1 (G1 iU 1) (B1 0 (.loop (S1 (S1 (G1 iU 2) (C1 9 K1 (X1 0))) (S1 (B1 1 (S1 (G1 iU 4) (B1 2 (S1 (G1 iU 5) (C1 15 (G1 iU 6) (S1 (G1 iU 7) (C1 18 (G1 iU 8) (S1 (G1 iU 9) (C1 21 (G1 iU 10) (S1 (G1 iU 11) (C1 24 (G1 iU 12) (S1 (G1 iU 13) (C1 27 (G1 iU 14) K1))))))))))))) (G1 iU 3)))))) (S1 (G1 iU 15) .ret))):=kr
theorem VE:la=(S1 (G1 la 0) (S1 (S1 (G1 la 1) (C1 17 (S1 (G1 la 2) .ret) K1)) (S1 (G1 la 3) (S1 (S1 (G1 la 4) (B1 0 (S1 (G1 la 5) (C1 25 (S1 (G1 la 6) .ret) (S1 (G1 la 7) (C1 29 (S1 (G1 la 8) .ret) (S1 (G1 la 9) (C1 33 (S1 (G1 la 10) .ret) K1)))))))) (S1 (G1 la 11) .ret))))):=kr
theorem QB:drawInfo (Z xh 1)=some []:=kr
theorem VG:xh=(S1 (G1 xh 0) (S1 (G2 xh 1) .ret)):=kr
theorem QC:drawInfo (Z nY 4)=some []:=kr
theorem VH:nY=(S1 (G1 nY 0) (S1 (S1 (G1 nY 1) (B1 0 (.loop (S1 (S1 (G1 nY 2) (C1 10 K1 (X1 0))) (S1 (B1 1 (S1 (G2 nY 4) (S1 (G1 nY 5) (C1 20 (S1 (G1 nY 6) .ret) K1)))) (G1 nY 3)))))) (S1 (G1 nY 7) .ret))):=kr
theorem QD:drawInfo (Z xj 1)=some []:=kr
theorem VK:xj=(S1 (G1 xj 0) (S1 (G2 xj 1) .ret)):=kr
theorem VQ:fk=(S1 (G1 fk 0) (S1 (G1 fk 1) (S1 (S1 (G1 fk 2) (B1 0 (.loop (S1 (S1 (G1 fk 3) (C1 10 K1 (X1 0))) (S1 (B1 1 (S1 (G1 fk 5) (B1 2 (S1 (G1 fk 6) (C1 16 (G1 fk 7) (S1 (G1 fk 8) (C1 19 (G1 fk 9) (S1 (G1 fk 10) (C1 22 (G1 fk 11) (S1 (G1 fk 12) (C1 25 (G1 fk 13) (S1 (G1 fk 14) (C1 28 (G1 fk 15) (S1 (G1 fk 16) (C1 31 (G1 fk 17) (S1 (G1 fk 18) (C1 35 (G1 fk 19) (S1 (G1 fk 20) (C1 38 (G1 fk 21) K1))))))))))))))))))) (G1 fk 4)))))) (S1 (S1 (G1 fk 22) (C1 52 (S1 (G1 fk 23) .ret) K1)) (S1 (G1 fk 24) .ret))))):=kr
theorem V9:ix=(S1 (G1 ix 0) (S1 (S1 (G1 ix 1) (B1 0 (S1 (S1 (G1 ix 2) (C1 7 K1 (S1 (G1 ix 3) (C1 7 K1 (S1 (G1 ix 4) (C1 7 K1 (S1 (G1 ix 5) (C1 7 K1 (G1 ix 6))))))))) (C1 7 (S1 (G1 ix 7) .ret) (S1 (G1 ix 8) (C1 33 (S1 (G1 ix 9) .ret) (S1 (G1 ix 10) (C1 49 (S1 (G1 ix 11) .ret) (S1 (G1 ix 12) (C1 65 (S1 (G1 ix 13) .ret) (S1 (G1 ix 14) (C1 87 (S1 (G1 ix 15) .ret) K1)))))))))))) (S1 (G1 ix 16) .ret))):=kr
theorem QH:drawInfo (Z iV 6)=some []:=kr
theorem Pv:drawInfo (Z iV 11)=some []:=kr
theorem Wc:iV=(S1 (G1 iV 0) (S1 (S1 (G1 iV 1) (C1 22 (S1 (G1 iV 2) .ret) K1)) (S1 (S1 (G1 iV 3) (B1 0 (.loop (S1 (S1 (G1 iV 4) (C1 27 K1 (X1 0))) (S1 (B1 1 (S1 (S1 (G2 iV 6) (C1 48 (S1 (G1 iV 7) .ret) K1)) (S1 (G1 iV 8) (B1 2 (.loop (S1 (S1 (G1 iV 9) (C1 51 K1 (X1 2))) (S1 (B1 3 (S1 (G2 iV 11) (C1 66 (S1 (G1 iV 12) .ret) K1))) (G1 iV 10)))))))) (G1 iV 5)))))) (S1 (G1 iV 13) .ret)))):=kr
theorem Zq:tA=(S1 (G1 tA 0) (S1 (G1 tA 1) (S1 (S1 (G1 tA 2) (C1 8 (S1 (G1 tA 3) .ret) K1)) (S1 (G1 tA 4) .ret)))):=kr
theorem Yk:tB=(S1 (G1 tB 0) (S1 (G1 tB 1) (S1 (S1 (G1 tB 2) (C1 8 (S1 (G1 tB 3) .ret) K1)) (S1 (G1 tB 4) .ret)))):=kr
theorem RZ:drawInfo (Z nk 6)=some []:=kr
theorem Zn:nk=(S1 (G1 nk 0) (S1 (S1 (G1 nk 1) (C1 10 (S1 (G1 nk 2) .ret) K1)) (S1 (S1 (G1 nk 3) (B1 0 (.loop (S1 (S1 (G1 nk 4) (C1 14 K1 (X1 0))) (S1 (B1 1 (S1 (G2 nk 6) (C1 25 (S1 (G1 nk 7) .ret) K1))) (G1 nk 5)))))) (S1 (G1 nk 8) .ret)))):=kr
theorem Zm:xQ=(S1 (G1 xQ 0) (S1 (G1 xQ 1) .ret)):=kr
theorem RY:drawInfo (Z lW 6)=some []:=kr
theorem Zl:lW=(S1 (G1 lW 0) (S1 (S1 (G1 lW 1) (C1 10 (S1 (G1 lW 2) .ret) K1)) (S1 (S1 (G1 lW 3) (B1 0 (.loop (S1 (S1 (G1 lW 4) (C1 14 K1 (X1 0))) (S1 (B1 1 (S1 (G2 lW 6) (C1 25 (S1 (G1 lW 7) .ret) K1))) (G1 lW 5)))))) (S1 (G1 lW 8) .ret)))):=kr
theorem Zj:gv=(S1 (G1 gv 0) (S1 (G1 gv 1) (S1 (S1 (G1 gv 2) (C1 15 (S1 (G1 gv 3) .ret) K1)) (S1 (G1 gv 4) (S1 (G1 gv 5) (S1 (B1 0 (.loop (S1 (S1 (G1 gv 6) (C1 19 K1 (X1 0))) (B1 1 (S1 (G1 gv 7) (S1 (G1 gv 8) (B1 2 (.loop (S1 (S1 (G1 gv 9) (C1 24 K1 (X1 2))) (S1 (B1 3 (S1 (S1 (G1 gv 11) (C1 31 (X1 3) K1)) (S1 (G1 gv 12) (S1 (G1 gv 13) (B1 4 (.loop (S1 (S1 (G1 gv 14) (C1 38 K1 (X1 4))) (S1 (B1 5 (S1 (G1 gv 16) (C1 56 (S1 (G1 gv 17) (G1 gv 18)) K1))) (G1 gv 15))))))))) (G1 gv 10))))))))))) (S1 (G1 gv 19) .ret))))))):=kr
theorem Rt:drawInfo (Z n9 1)=some []:=kr
theorem Yi:n9=(S1 (G1 n9 0) (S1 (G2 n9 1) (S1 (G1 n9 2) (S1 (S1 (G1 n9 3) (B1 0 (.loop (S1 (S1 (G1 n9 4) (C1 16 K1 (X1 0))) (S1 (B1 1 (G1 n9 6)) (G1 n9 5)))))) (S1 (G1 n9 7) .ret))))):=kr
theorem Qg:drawInfo (Z m9 7)=some []:=kr
theorem UB:m9=(S1 (G1 m9 0) (S1 (G1 m9 1) (S1 (G1 m9 2) (S1 (S1 (G1 m9 3) (B1 0 (.loop (S1 (S1 (G1 m9 4) (C1 20 K1 (X1 0))) (S1 (B1 1 (S1 (G1 m9 6) (C1 30 (G2 m9 7) K1))) (G1 m9 5)))))) (S1 (G1 m9 8) .ret))))):=kr
end Go.Proofs.Tryz.K
section
open Go Go.Abs Go.Proofs Go.Argus
namespace Go.Argus
def bq(f:aA)(h:D):List D:=[S f.name,B f.iter,I f.args,U8 f.result,io f.ag,io f.aK,mY f.signals,ew f.blocks,h]
@[simp] theorem abV (f : aA) (h : D) : (bq f h).length = 9 := rfl
theorem qG{h:D}(ht:Tr h)(f:aA):∀ d∈bq f h,Tr d:=.cons (.s _) (.cons (.s _) (.cons (.s _) (.cons (.s _) (.cons (mV _) (.cons (mV _) (.cons (td _) (.cons (zJ _) (.cons ht .nil))))))))
def aY(f:aA)(r k:Int):Bool:=if k=119 then bP f.ag r==1 else if k=114 then bP f.ag r==2 else if k=105 then bP f.ag r==3 else dB f.ag r
theorem Ab{s:ByteArray}{k:Nat}(h:k<s.size):((s.data.toList.getD (k:Int).toNat 0).toNat:Int)∈cn s/\(cn s)[k]? =some ((s.data.toList.getD (k:Int).toNat 0).toNat:Int):=by
 have h1:k<s.data.toList.length:=by simpa using h
 have h2:(cn s)[k]? =some ((s.data.toList.getD (k:Int).toNat 0).toNat:Int):=by
  simp[cn,aL h1,bD]
 exact⟨cg h2,h2⟩
def g9(f:aA)(a b:Int):Bool:=dB f.ag a&&(dB f.ag b&&bP f.ag a==bP f.ag b)
def tH(y:bd)(d:D):List D:=[U8 y.op,I y.to,I y.a,I y.b,I y.n,d]
theorem AE:Tr .z:=fun F β w v h=>by
 obtain⟨x,rfl⟩:=h.z_inv;exact .z x
def p9(d:D)(l:List Int):Prop:=d=aC l\/d=.z/\l=[]
theorem SP{d:D}{l:List Int}(h:p9 d l):Tr d:=by
 rcases h with rfl|⟨rfl,_⟩
 .exact cW _
 .exact AE
theorem RP{y:bd}{d:D}(h:p9 d y.args):∀ a∈tH y d,Tr a:=.cons (.s _) (.cons (.s _) (.cons (.s _) (.cons (.s _) (.cons (.s _) (.cons (SP h) .nil)))))
theorem RQ{y:bd}{d:D}(h:p9 d y.args):(tH y d).all D.one=true:=by
 rcases h with rfl|⟨rfl,_⟩<;>rfl
def LL(y:End)(C J:D):List D:=[U8 y.kind,I y.a,I y.b,I y.to,I y.eD,S y.name,U8 y.ins.op,I y.ins.to,I y.ins.a,I y.ins.b,I y.ins.n,C,J,lN y.az,I y.b7]
end Go.Argus
namespace Go.Proofs.Tryz.K
set_option maxRecDepth 10000
theorem eY{n a b:Int}:PCall prog 212 [I n,I a,I b] (B (ct n a b)):=by
 refine a7 Vv (.cons (.s _) (.cons (.s _) (.cons (.s _) .nil))) (Tr.s _) ?_;rw[Vw];refine ws ?_;refine SS ?_;refine er ?_;refine aQ ?_;refine ab (aq (d:=.s (.bool _)) rfl ?_);unfold ct;by_cases h:a<=n<;>simp[h]
theorem tT{s:ByteArray}(J:s.size<=maxLen):PCall prog 211 [S s] (B (iX s)):=by
 unfold maxLen at J;refine a7 Vx (.cons (.s _) .nil) (Tr.s _) ?_;rw[Vy];refine ws ?_;refine SS ?_;refine ab (aB (au ?_));refine SS ?_
 refine ab (bZ (fun st=>Ghost prog st ⟨ax [(0,S s)],fun _=>none,0⟩/\∀ (j:Nat) y,(cn s)[j]? =some y->pv y=false) (cP (α:=Nat) (fun k=>⟨ax [(0,S s),(3,I k)],fun _=>none,0⟩)
  (fun k=>k<=s.size/\∀ j y,j<k->(cn s)[j]? =some y->pv y=false) (fun k=>s.size - k) 0 (ao eH) ⟨oG,fun j y hj=>by omega⟩ ?_) ?_)
 .rintro k ⟨hk,hinv⟩;refine aN ?_;refine ab ⟨_,rfl,fun h=>?_,fun h=>?_⟩
  .have al:k<s.size:=by simpa using h
   obtain⟨hm,hx⟩:=Ab al;generalize C:s.data.toList.getD (k:Int).toNat 0=z at hm hx;refine ws ?_;refine bH ?_;refine af ?_;refine ab (an rfl (fun hp=>?_) fun hp=>?_)
   .refine ws ?_;refine SS ?_;refine ab (aU (cq (aO (aq (d:=B false) rfl ?_))));have h1:(cn s).any pv=true:=List.any_eq_true.2 ⟨_,hm,by rw[C] at hp;revert hp;simp[pv]⟩;unfold iX;rw[h1];simp
   .refine cD ?_;refine ap ?_;refine ab (aP (k+1) (ao eH) ⟨oG,fun j y hj hy=>?_⟩ oG);by_cases e:j=k
    .subst e;rw[hx] at hy;cases hy;rw[C] at hp;revert hp;simp[pv]
    .exact hinv j y oG hy
  .have U:¬ k<s.size:=by simpa using h
   exact⟨ao eH,fun j y hy=>hinv j y (by have:=(bA.1 hy).1;simp[cn] at this;omega) hy⟩
 .rintro st ⟨hg,M⟩;refine⟨_,hg,aj ?_⟩;have eY:=eY (n:=s.size) (a:=1) (b:=120);refine af ?_;refine cl eY ?_;refine SS ?_;refine ab (aq (d:=.s (.bool _)) rfl ?_)
  have h1:(cn s).any pv=false:=List.any_eq_false.2 fun x hx=>by
   obtain⟨j,hj⟩:=dh hx;rw[M j x hj];simp
  unfold iX;rw[h1];simp
theorem kJ{s:ByteArray}(J:s.size<=maxLen):PCall prog 213 [S s] (B (isName s)):=by
 unfold maxLen at J;refine a7 Vz (.cons (.s _) .nil) (Tr.s _) ?_;rw[VA];refine ws ?_;refine SS ?_;refine ab (aB (au ?_));refine SS ?_
 refine ab (bZ (fun st=>Ghost prog st ⟨ax [(0,S s)],fun _=>none,0⟩/\∀ (j:Nat) y,(cn s)[j]? =some y->pw y=false) (cP (α:=Nat) (fun k=>⟨ax [(0,S s),(3,I k)],fun _=>none,0⟩)
  (fun k=>k<=s.size/\∀ j y,j<k->(cn s)[j]? =some y->pw y=false) (fun k=>s.size - k) 0 (ao eH) ⟨oG,fun j y hj=>by omega⟩ ?_) ?_)
 .rintro k ⟨hk,hinv⟩;refine aN ?_;refine ab ⟨_,rfl,fun h=>?_,fun h=>?_⟩
  .have al:k<s.size:=by simpa using h
   obtain⟨hm,hx⟩:=Ab al;generalize C:s.data.toList.getD (k:Int).toNat 0=z at hm hx;refine ws ?_;refine aQ ?_;refine aQ ?_;refine aN ?_;refine ab (an rfl (fun hp=>?_) fun hp=>?_)
   .refine ws ?_;refine SS ?_;refine ab (aU (cq (aO (aq (d:=B false) rfl ?_))));have h1:(cn s).any pw=true:=List.any_eq_true.2 ⟨_,hm,by rw[C] at hp;revert hp;simp[pw]⟩;unfold isName;rw[h1];simp
   .refine cD ?_;refine ap ?_;refine ab (aP (k+1) (ao eH) ⟨oG,fun j y hj hy=>?_⟩ oG);by_cases e:j=k
    .subst e;rw[hx] at hy;cases hy;rw[C] at hp;revert hp;simp[pw]
    .exact hinv j y oG hy
  .have U:¬ k<s.size:=by simpa using h
   exact⟨ao eH,fun j y hy=>hinv j y (by have:=(bA.1 hy).1;simp[cn] at this;omega) hy⟩
 .rintro st ⟨hg,M⟩;refine⟨_,hg,aj ?_⟩;have eY:=eY (n:=s.size) (a:=1) (b:=12);refine af ?_;refine cl eY ?_;refine SS ?_;refine ab (aq (d:=.s (.bool _)) rfl ?_)
  have h1:(cn s).any pw=false:=List.any_eq_false.2 fun x hx=>by
   obtain⟨j,hj⟩:=dh hx;rw[M j x hj];simp
  unfold isName;rw[h1];simp
theorem qD{f:aA}{hd:D}(h:hd.one=true):(bq f hd).all D.one=true:=by
 simp only[bq,List.all_cons,List.all_nil,h,Bool.and_true];rfl
section
variable{f:aA}{hd:D}(ht:Tr hd)(cS:hd.one=true)
include ht cS
theorem fp{b:Int}(hn:f.blocks.length<=1200):PCall prog 170 [.agg (bq f hd),I b] (B (bI f b)):=by
 refine a7 VB (.cons (.agg (qG ht f)) (.cons (.s _) .nil)) (Tr.s _) ?_;rw[VC];refine au ?_;refine af ?_;refine ab (aJ (bj [(0,bq f hd,208)] eH (l:=[(1,I b),(2,.pt (bq f hd))]) eH) (aj ?_));have eY:=eY (n:=b) (a:=0) (b:=(f.blocks.length:Int) - 1);refine bF ?_;refine cl eY ?_;refine SS ?_;exact ab (aq rfl rfl)
theorem bm{r k:Int}:PCall prog 215 [.agg (bq f hd),I r,U8 k] (B (aY f r k)):=by
 refine a7 VD (.cons (.agg (qG ht f)) (.cons (.s _) (.cons (.s _) .nil))) (Tr.s _) ?_;rw[VE];refine au ?_;refine af ?_;refine ab (aJ (bj [(0,bq f hd,208)] eH (l:=[(1,I r),(2,U8 k),(3,.pt (bq f hd))]) eH) (aB (aj ?_)));refine bH ?_;refine Y1 ?_;refine SS ?_;refine ab (cy rfl (fun h=>?_) fun h=>cu (aj ?_))
 .refine aB (aj ?_);refine SS ?_;refine ab (di (aq (d:=.s (.bool _)) rfl ?_))
  have h0:bP f.ag r=0:=Cl fun C=>by
   by_cases h1:r<0<;>simp[h1] at h<;>omega
  simp[aY,dB,h0]
 .have hr:0<=r/\r<f.ag.length:=by
   by_cases h1:r<0<;>simp[h1] at h;omega
  obtain⟨n,rfl⟩:=eC hr.1;have hx:f.ag[n]? =some f.ag[n]:=aL oG;have hk:=py hx;have hi:aY f n k=if k=119 then f.ag[n]==1 else if k=114 then f.ag[n]==2 else if k=105 then f.ag[n]==3 else f.ag[n]==1||f.ag[n]==2:=by simp only[aY,dB,hk]
  rw[hi];generalize f.ag[n]=v at hx;clear h hi hk;refine dF ?_;refine ab (aB (aj ?_));refine SS ?_;refine ab (kf (aj ?_));refine af ?_;refine ab (an rfl (fun h0=>?_) fun h0=>?_)
  .have h0:k=119:=by simpa using h0
   refine ws ?_;refine ap ?_;refine ab (aU (bk (aO (aq (d:=.s (.bool _)) rfl ?_))));simp[h0]
  have h0:¬ k=119:=by simpa using h0
  refine ws ?_;refine af ?_;refine ab (an rfl (fun h1=>?_) fun h1=>?_)
  .have h1:k=114:=by simpa using h1
   refine ws ?_;refine ap ?_;refine ab (aU (bk (aO (aq (d:=.s (.bool _)) rfl ?_))));simp[h1]
  have h1:¬ k=114:=by simpa using h1
  refine ws ?_;refine af ?_;refine ab (an rfl (fun h2=>?_) fun h2=>?_)
  .have h2:k=105:=by simpa using h2
   refine ws ?_;refine ap ?_;refine ab (aU (bk (aO (aq (d:=.s (.bool _)) rfl ?_))));simp[h2]
  have h2:¬ k=105:=by simpa using h2
  refine jN (aj ?_);refine dF ?_;refine ab (aq (d:=.s (.bool _)) rfl ?_);rw[if_neg h0,if_neg h1,if_neg h2];by_cases h3:v=1<;>simp[h3]
end
section
variable{f:aA}{hd:D}(ht:Tr hd)(cS:hd.one=true)
include ht cS
theorem tU{a b:Int}:PCall prog 216 [.agg (bq f hd),I a,I b] (B (g9 f a b)):=by
 have hi:∀ r,aY f r 118=dB f.ag r:=fun r=>rfl;have C:=bm (f:=f) ht cS (r:=a) (k:=118);have J:=bm (f:=f) ht cS (r:=b) (k:=118);rw[hi] at C J;refine a7 VF (.cons (.agg (qG ht f)) (.cons (.s _) (.cons (.s _) .nil))) (Tr.s _) ?_;rw[VG];refine au ?_;refine af ?_;refine ab (aJ (bj [(0,bq f hd,208)] eH (l:=[(1,I a),(2,I b),(3,.pt (bq f hd))]) eH) (dz QB ?_))
 have X:∀ r,dB f.ag r=true->∃ (n:Nat) (x:Int),r=n/\f.ag[n]? =some x/\bP f.ag r=x:=fun r h=>by
  obtain⟨h1,h2⟩:=kU h;obtain⟨n,rfl⟩:=eC h1;have hx:f.ag[n]? =some f.ag[n]:=aL oG;exact⟨n,_,rfl,hx,py hx⟩
 unfold g9;cases M:dB f.ag a with
 |false=>
  rw[M] at C;have bm:=C;refine af ?_;refine cl bm ?_;refine SS ?_;refine z fun _ _=>?_;have bm:=J
  (iterate 2 refine z fun _ _=>?_);refine af ?_;(iterate 13 refine z fun _ _=>?_);refine af ?_
  exact bf bg (aq rfl rfl)
 |true=>
  rw[M] at C;cases U:dB f.ag b with
  |false=>
   rw[U] at J;have bm:=C;refine af ?_;refine cl bm ?_;refine af ?_;have bm:=J;refine SS ?_;refine gc bm ?_;refine af ?_;(iterate 13 refine z fun _ _=>?_);refine af ?_;exact bf bg (aq rfl rfl)
  |true=>
   rw[U] at J;obtain⟨n,x,rfl,hx,e1⟩:=X a M;obtain⟨m,y,rfl,hy,e2⟩:=X b U;rw[e1,e2];have bm:=C;refine af ?_;refine cl bm ?_;refine af ?_;have bm:=J;refine SS ?_;refine gc bm ?_;refine aQ ?_;refine bH ?_;exact bf bg (aq rfl rfl)
theorem p8{l:List Int}:PCall prog 217 [.agg (bq f hd),aC l] (B (eT f.ag l)):=by
 have C:∀ a∈[D.agg (bq f hd),aC l],Tr a:=.cons (.agg (qG ht f)) (.cons (cW _) .nil);refine lK LH.he C fun M=>?_;have hlen:=(M (aC l) oS).sl.1;unfold maxLen at hlen;refine a7 LH C (Tr.s _) ?_;rw[VH];refine au ?_;refine af ?_;refine ab (aJ (bj [(0,bq f hd,208)] eH (l:=[(1,aC l),(2,.pt (bq f hd))]) eH) (aB (au ?_)));refine SS ?_
 refine ab (bZ (fun s=>Ghost prog s ⟨ax [],fun _=>none,1⟩/\∀ (j:Nat) y,l[j]? =some y->dB f.ag y=true) (cP (α:=Nat) (fun k=>⟨ax [(1,aC l),(2,.pt (bq f hd)),(5,I k)],fun _=>none,1⟩)
  (fun k=>k<=l.length/\∀ j y,j<k->l[j]? =some y->dB f.ag y=true) (fun k=>l.length - k) 0 (ao eH) ⟨oG,fun j y hj=>by omega⟩ ?_) ?_)
 .rintro k ⟨hk,hinv⟩;refine aN ?_;refine ab ⟨_,rfl,fun h=>?_,fun h=>?_⟩
  .have al:k<l.length:=by simpa using h
   have hx:l[k]? =some l[k]:=by simp[al]
   generalize l[k]=x at hx;have bm:PCall prog 215 [.agg (bq f hd),I x,U8 118] (B (dB f.ag x)):=bm (f:=f) ht cS (r:=x) (k:=118);refine dz QC ?_;refine aR ?_;refine cl bm ?_;refine SS ?_;refine bf bg (aj ?_);refine af ?_;refine ab (an rfl (fun hp=>?_) fun hp=>?_)
   .refine ws ?_;refine SS ?_;refine ab (aU (cq (aO (aq (d:=B false) rfl ?_))));have:eT f.ag l=false:=List.all_eq_false.2 ⟨x,cg hx,by simpa using hp⟩;rw[this]
   .refine cD ?_;refine ap ?_;refine ab (aP (k+1) (ao eH) ⟨oG,fun j y hj hy=>?_⟩ oG);by_cases e:j=k
    .subst e;rw[hx] at hy;cases hy;simpa using hp
    .exact hinv j y oG hy
  .have U:¬ k<l.length:=by simpa using h
   exact⟨.forget _ _ _ _ fun _=>.inr rfl,fun j y hy=>hinv j y (by have:=(bA.1 hy).1;omega) hy⟩
 .rintro s ⟨hg,J⟩;refine⟨_,hg,aj ?_⟩;refine SS ?_;refine ab (aq (d:=B true) rfl ?_)
  have:eT f.ag l=true:=br.2 fun x hx=>by
   obtain⟨j,hj⟩:=dh hx;exact J j x hj
  rw[this]
theorem A7{n r:Int}(hl:f.aK.length<=60)(U:∀ k∈f.aK,k=1\/k=2):PCall prog 218 [.agg (bq f hd),I n,I r] (B (jn f.ag f.aK r n)):=by
 have eY:=eY (n:=n) (a:=0) (b:=(f.aK.length:Int) - 1);have X:PCall prog 215 [.agg (bq f hd),I r,U8 118] (B (dB f.ag r)):=bm (f:=f) ht cS (r:=r) (k:=118);refine a7 VJ (.cons (.agg (qG ht f)) (.cons (.s _) (.cons (.s _) .nil))) (Tr.s _) ?_;rw[VK];refine au ?_;refine af ?_;refine ab (aJ (bj [(0,bq f hd,208)] eH (l:=[(1,I n),(2,I r),(3,.pt (bq f hd))]) eH) (dz QD ?_));unfold jn;have bm:=X;cases C:ct n 0 (f.aK.length - 1) with
 |false=>
  rw[C] at eY;refine bF ?_;refine cl eY ?_;refine SS ?_;(iterate 3 refine z fun _ _=>?_);refine af ?_;(iterate 13 refine z fun _ _=>?_);refine af ?_;exact bf bg (aq rfl rfl)
 |true=>
  rw[C] at eY;have h0:=ir.1 C;obtain⟨m,rfl⟩:=eC h0.1;have hx:f.aK[m]? =some f.aK[m]:=aL oG;have zh:=py hx;have M:=U _ (cg hx);rw[zh];generalize f.aK[m]=x at hx M;cases hv:dB f.ag r with
  |false=>
   rw[hv] at bm;refine bF ?_;refine cl eY ?_;refine ap ?_;refine gc bm ?_;refine af ?_;(iterate 13 refine z fun _ _=>?_);refine af ?_;refine bf bg (aq (d:=.s (.bool _)) rfl ?_)
   have:(bP f.ag r==x)=false:=by
    unfold dB at hv;rcases M with rfl|rfl<;>simp at hv ⊢<;>simp[hv]
   rw[this];rfl
  |true=>
   rw[hv] at bm;obtain⟨h1,h2⟩:=kU hv;obtain⟨i,rfl⟩:=eC h1;have hy:f.ag[i]? =some f.ag[i]:=aL oG;have J:=py hy;rw[J];generalize f.ag[i]=y at hy;refine bF ?_;refine cl eY ?_;refine ap ?_;refine gc bm ?_;refine aQ ?_;refine bH ?_;refine bf bg (aq (d:=.s (.bool _)) rfl ?_);show B (x==y)=B (y==x);rw[Bool.beq_comm]
end
end Go.Proofs.Tryz.K
namespace Go.Argus
open Go.Proofs.Tryz.K (nextR)
def gQ:List Int->Int->List Int
 |[],n=>[n]
 |x::l,n=>if x<n then x::gQ l n else if x=n then x::l else n::x::l
theorem JY{n:Int}:∀ {l:List Int} {k:Nat},k<=l.length->(∀ j y,j<k->l[j]? =some y->y<n)->(∀ y,l[k]? =some y->¬ y<n)->
 gQ l n=if l[k]? =some n then l else l.take k++n::l.drop k
 |[],k,hk,_,_=>by
  have:k=0:=by simpa using hk
  subst this;simp[gQ]
 |x::l,0,_,_,h=>by
  have h0:¬ x<n:=h x rfl;by_cases e:x=n
  .subst e;simp[gQ]
  .simp[gQ,h0,e]
 |x::l,k+1,hk,h1,h2=>by
  have h0:x<n:=h1 0 x oG rfl;have ih:=JY (n:=n) (l:=l) (k:=k) (by simpa using hk) (fun j y hj hy=>h1 (j+1) y oG (by simpa using hy)) (fun y hy=>h2 y (by simpa using hy));simp only[gQ,if_pos h0,ih,List.getElem?_cons_succ];split<;>simp
theorem CQ{n x:Int}:∀ {l:List Int},x∈gQ l n↔x∈l\/x=n
 |[]=>by simp[gQ]
 |y::l=>by
  unfold gQ;split
  .rw[List.mem_cons,CQ (l:=l),List.mem_cons];exact or_assoc.symm
  .split
   .rename_i e;subst e;simp only[List.mem_cons];constructor
    .exact .inl
    .rintro(h|h)
     .exact h
     .exact .inl h
   .simp only[List.mem_cons];constructor
    .rintro(h|h)
     .exact .inr h
     .exact .inl h
    .rintro(h|h)
     .exact .inr h
     .exact .inl h
theorem H5{n:Int}:∀ {l:List Int},l.Pairwise (·<·)->(gQ l n).Pairwise (·<·)
 |[],_=>by simp[gQ]
 |y::l,h=>by
  rw[List.pairwise_cons] at h;unfold gQ;split
  .rename_i hy;refine List.pairwise_cons.2 ⟨fun z C=>?_,H5 h.2⟩;rcases CQ.1 C with C|rfl
   .exact h.1 z C
   .exact hy
  .split
   .exact List.pairwise_cons.2 h
   .refine List.pairwise_cons.2 ⟨fun z C=>?_,List.pairwise_cons.2 h⟩;rcases List.mem_cons.1 C with rfl|C
    .omega
    .have:=h.1 z C;omega
theorem H6{n:Int}:∀ {l:List Int},(gQ l n).length<=l.length+1
 |[]=>by simp[gQ]
 |y::l=>by
  have:=H6 (n:=n) (l:=l);unfold gQ;split
  .simp;omega
  .split<;>simp
def oh(l:List Int):List Int:=l.foldl gQ []
theorem wJ:∀ {l z:List Int},z.Pairwise (·<·)->(l.foldl gQ z).Pairwise (·<·)/\(∀ x,x∈l.foldl gQ z↔x∈z\/x∈l)/\(l.foldl gQ z).length<=z.length+l.length
 |[],z,h=>⟨h,fun x=>by simp,oS⟩
 |y::l,z,h=>by
  obtain⟨h1,h2,h3⟩:=wJ (l:=l) (H5 (n:=y) h);have:=H6 (n:=y) (l:=z);refine⟨h1,fun x=>?_,by simp only[List.length_cons,List.foldl_cons];omega⟩;rw[List.foldl_cons,h2,CQ,List.mem_cons,or_assoc]
theorem Ji:∀ {l z:List Int},l.Pairwise (·<·)->z.Pairwise (·<·)->(∀ x,x∈l↔x∈z)->l=z
 |[],[],_,_,_=>rfl
 |[],y::z,_,_,h=>by have:=(h y).2 oS;simp at this
 |y::l,[],_,_,h=>by have:=(h y).1 oS;simp at this
 |x::l,y::z,hl,hz,h=>by
  rw[List.pairwise_cons] at hl hz
  have e:x=y:=by
   have h1:=(h x).1 oS;have h2:=(h y).2 oS;rcases List.mem_cons.1 h1 with h1|h1
   .exact h1
   .rcases List.mem_cons.1 h2 with h2|h2
    .exact h2.symm
    .have:=hl.1 y h2;have:=hz.1 x h1;omega
  subst e;rw[Ji hl.2 hz.2 fun w=>⟨fun C=>?_,fun C=>?_⟩]
  .rcases List.mem_cons.1 ((h w).1 (by simp[C])) with e|e
   .have:=hl.1 w C;omega
   .exact e
  .rcases List.mem_cons.1 ((h w).2 (by simp[C])) with e|e
   .have:=hz.1 w C;omega
   .exact e
def l0(x:End):List Int:=oh (cX x)
theorem Hf{x:End}{t:Int}:t∈l0 x↔t∈cX x:=by
 unfold l0 oh;rw[(wJ (l:=cX x) (z:=[]) .nil).2.1];simp
theorem QI(x:End):(l0 x).length<=x.az.length+3:=by
 have:=(wJ (l:=cX x) (z:=[]) .nil).2.2;have:=wF x;unfold l0 oh;simp at*;omega
def wX(bs:List bu)(L:Nat->List Int)(b:Nat):Nat->List Int:=match bs[b]? with
 |none=>L
 |some x=>(l0 x.fin).foldl (cO b) L
def iY(bs:List bu)(k:Nat):Nat->List Int:=(List.range k).foldl (wX bs) fun _=>[]
def gP(x:bd)(c:Int):bd:=if c=116 then { x with to:=0 } else if c=97 then { x with a:=0 } else if c=98 then { x with b:=0 } else if c=110 then { x with n:=0 } else if c=108 then { x with args:=[] } else x
def iB(x:bd):Bool:=aG x.to 0&&(aG x.a 0&&(aG x.b 0&&(aG x.n 0&&gK x)))
def bp(x:bd)(fs:List Int):Bool:=iB (fs.foldl gP x)
def iG(f:aA)(x:bd):Bool:=
 if aE [30,31,32,33,34] x.op then bp x [116,97,98]&&(aY f x.to 119&&(aY f x.a 119&&aY f x.b 119))
 else if x.op=35 then bp x [97,98]&&(aY f x.a 114&&aY f x.b 118)
 else if x.op=36 then bp x [116,97]&&(aY f x.to 118&&aY f x.a 114)
 else if x.op=37 then bp x [116,97,98]&&(aY f x.to 118&&(aY f x.a 114&&aY f x.b 119))
 else if x.op=38 then bp x [97,98,108]&&(aY f x.a 114&&(aY f x.b 119&&(aG x.args.length 1&&eT f.ag x.args)))
 else false
def dd(f:aA)(b C:Int)(x:bd):Bool:=
 if x.op=1 then bp x [116,110]&&(aY f x.to 119&&ct x.n (-1000000000) 1000000000)
 else if x.op=2 then bp x [116,97]&&g9 f x.to x.a
 else if aE [3,4,6,7] x.op then bp x [116,97,98]&&(aY f x.to 119&&(aY f x.a 119&&aY f x.b 119))
 else if x.op=5 then bp x [116,97,98]&&(aY f x.to 119&&g9 f x.a x.b)
 else if x.op=8 then bp x [116,97]&&(aY f x.to 119&&aY f x.a 119)
 else if x.op=9 then bp x [116,110]&&(aY f x.to 114&&ct x.n 0 1)
 else if x.op=10 then bp x [116,110,108]&&(aY f x.to 114&&(ct x.n 0 5&&(ct x.args.length 1 6&&eT f.ag x.args)))
 else if x.op=11 then bp x [116,97,110]&&(aY f x.to 118&&(aY f x.a 114&&ct x.n 0 5))
 else if x.op=12 then bp x [97,98,110]&&(aY f x.a 114&&(aY f x.b 118&&ct x.n 0 5))
 else if aE [13,14] x.op then bp x [116,97]&&(aY f x.to 119&&aY f x.a 114)
 else if x.op=15 then bp x [97]&&aY f x.a 119
 else if x.op=16 then bp x [97]&&aY f x.a 105
 else if x.op=17 then bp x [116,110]&&jn f.ag f.aK x.to x.n
 else if x.op=18 then bp x [97,110]&&jn f.ag f.aK x.a x.n
 else if x.op=19 then !aG b 0&&(bp x [116,108]&&(aY f x.to 118&&(aG x.args.length C&&x.args.all (g9 f x.to))))
 else false
def eZ(x:End)(c:Int):End:=
 if c=97 then { x with a:=0 } else if c=98 then { x with b:=0 } else if c=116 then { x with to:=0 } else if c=101 then { x with eD:=0 }
 else if c=110 then { x with name:=.empty } else if c=105 then { x with ins:=dc } else if c=108 then { x with args:=[] } else x
def lZ(x:End):Bool:=aG x.a 0&&(aG x.b 0&&(aG x.to 0&&(aG x.eD 0&&(x.name.toList==[]&&(aG x.args.length 0&&(aG x.ins.op 0&&iB x.ins))))))
def c7(x:End)(fs:List Int):Bool:=(fs.any (·==104)||(aG x.az.length 0&&aG x.b7 (-1)))&&lZ (fs.foldl eZ x)
def fc(f:aA)(x:End):Bool:=
 if x.kind=1 then c7 x [116]&&bI f x.to
 else if x.kind=2 then c7 x [97,116,101]&&(aY f x.a 119&&(bI f x.to&&bI f x.eD))
 else if x.kind=3 then(if f.iter=true\/f.result=0 then c7 x [97]&&aG x.a (-1) else c7 x [97]&&(aY f x.a 118&&aG (bP f.ag x.a) f.result))
 else if x.kind=4 then c7 x [110]&&isName x.name
 else if x.kind=5 then c7 x [116,105,104]&&(iG f x.ins&&(bI f x.to&&jH f x))
 else if x.kind=6 then c7 x [97,116,110,108,104]&&(iX x.name&&(decide ((x.args.length:Int)<=6)&&(eT f.ag x.args&&((aG x.a (-1)||aY f x.a 118)&&(bI f x.to&&jH f x)))))
 else if x.kind=7 then c7 x [97,116,110,108]&&(iX x.name&&(decide ((x.args.length:Int)<=6)&&(eT f.ag x.args&&(aY f x.a 105&&bI f x.to))))
 else if x.kind=8 then c7 x [97,98,116,101,104]&&(aY f x.a 105&&(aY f x.b 118&&(bI f x.to&&(bI f x.eD&&jH f x))))
 else if x.kind=9 then c7 x [97,116]&&(f.iter&&(aY f x.a 118&&(aG (bP f.ag x.a) f.result&&bI f x.to)))
 else false
theorem pU(f:aA)(r:Int):aY f r 119=aG (bP f.ag r) 1:=rfl
theorem tI(f:aA)(r:Int):aY f r 114=aG (bP f.ag r) 2:=rfl
theorem yd(f:aA)(r:Int):aY f r 105=aG (bP f.ag r) 3:=rfl
theorem om(f:aA)(r:Int):aY f r 118=dB f.ag r:=rfl
theorem PO{f:aA}{r n:Int}(C:∀ k∈f.aK,k=1\/k=2)(h:jn f.ag f.aK r n=true):dB f.ag r=true:=by
 unfold jn at h;rw[aM,ir] at h;obtain⟨⟨h1,h2⟩,h3⟩:=h;obtain⟨k,rfl⟩:=eC h1;have hk:k<f.aK.length:=by omega
 rw[py (aL hk)] at h3;have h3:bP f.ag r=f.aK[k]:=by simpa using h3
 have:=C _ (bR hk);unfold dB;rw[h3];rcases this with e|e<;>simp[e]
theorem S2(f:aA)(x:bd):iG f x=((ez gJ x.op).isSome&&lP f.ag x ((ez gJ x.op).getD te)):=by
 obtain⟨op,to,a,b,n,args⟩:=x;unfold iG;dsimp only;by_cases h0:op=30\/op=31\/op=32\/op=33\/op=34
 .rcases h0 with rfl|rfl|rfl|rfl|rfl<;>
   (simp[aE,ez,gJ,List.find?,lP,jk,mX,mS,bp,gP,iB,pU,aG,gK,ct];grind)
 by_cases h5:op=35
 .subst h5;simp[aE,ez,gJ,List.find?,lP,jk,mX,mS,bp,gP,iB,pU,tI,om,aG,gK,ct];grind
 by_cases C:op=36
 .subst C;simp[aE,ez,gJ,List.find?,lP,jk,mX,mS,bp,gP,iB,pU,tI,om,aG,gK,ct];grind
 by_cases J:op=37
 .subst J;simp[aE,ez,gJ,List.find?,lP,jk,mX,mS,bp,gP,iB,pU,tI,om,aG,gK,ct];grind
 by_cases M:op=38
 .subst M;simp[aE,ez,gJ,List.find?,lP,jk,mX,mS,bp,gP,iB,pU,tI,om,aG,gK,ct];grind
 have hn:ez gJ op=none:=by
  simp only[ez,gJ,Option.map_eq_none_iff,List.find?_eq_none];simp;omega
 rw[hn,if_neg (by simp[aE];omega),if_neg h5,if_neg C,if_neg J,if_neg M];rfl
theorem S3(f:aA)(to:Int)(l:List Int)(h:dB f.ag to=true):l.all (g9 f to)= !l.any fun r=> !aG (bP f.ag r) (bP f.ag to):=by
 have hk:bP f.ag to=1\/bP f.ag to=2:=by simpa[dB] using h
 rw[List.not_any_eq_all_not];congr 1;funext r;simp only[g9,h,Bool.true_and,aG,Bool.not_not,dB];grind
theorem Jj{f:aA}{b X:Nat}{x:bd}(hs:∀ k∈f.aK,k=1\/k=2):dd f b X x=gq f b x true X:=by
 have hsv:= @PO f;obtain⟨op,to,a,b',n,args⟩:=x;unfold dd gq;dsimp only;by_cases U:op=16
 .subst U;simp[aE,bp,gP,iB,yd,aG,gK];grind
 by_cases M:op=17
 .subst M;simp[aE,bp,gP,iB,aG,gK];grind
 by_cases J:op=18
 .subst J;simp[aE,bp,gP,iB,aG,gK];grind
 by_cases C:op=19
 .subst C;cases hv:dB f.ag to with
  |false=>simp[aE,om,hv]
  |true=>
   rw[S3 f to args hv]
   have hb:decide (0<(b:Int))= !decide ((b:Int)=0):=by
    by_cases h:b=0<;>simp[h];omega
   simp[aE,om,hv,hb,bp,gP,iB,aG,gK];grind
 rw[if_neg U,if_neg M,if_neg J,if_neg C,if_neg U,if_neg M,if_neg J,if_neg C];by_cases hm:op∈[1,2,3,4,5,6,7,8,9,10,11,12,13,14,15]
 .simp only[List.mem_cons,List.not_mem_nil,or_false] at hm
  rcases hm with rfl|rfl|rfl|rfl|rfl|rfl|rfl|rfl|rfl|rfl|rfl|rfl|rfl|rfl|rfl<;>
   (simp[aE,ez,lc,List.find?,lP,jk,mX,mS,bp,gP,iB,pU,tI,om,aG,gK,ct,g9,dB];grind)
 .have hn:ez lc op=none:=by
   simp only[ez,lc,Option.map_eq_none_iff,List.find?_eq_none];simp at hm ⊢;omega
  simp only[List.mem_cons,List.not_mem_nil,or_false,not_or] at hm;rw[hn];simp[aE];grind
theorem Dn{f:aA}{x:End}(hr:mW f=true):fc f x=gI f x:=by
 have ht:=S2 f x.ins
 have vX:(f.result=1\/f.result=2)\/f.result=0/\f.iter=false:=by
  simp[mW] at hr;grind
 obtain⟨kind,a,b,to,eD,name,ins,args,az,b7⟩:=x;dsimp only at ht;have X:∀ y:bd,xO y=(aG y.op 0&&iB y):=fun y=>by simp[xO,iB,aG,gK]
 have h0:iB dc=true:=rfl;have he:ByteArray.toList .empty=[]:=by simp
 unfold fc gI eI tG;simp only[X];by_cases h1:kind=1
 .subst h1;simp[c7,eZ,lZ,aG];grind
 by_cases h2:kind=2
 .subst h2;simp[c7,eZ,lZ,aG,pU];grind
 by_cases h3:kind=3
 .subst h3;simp[c7,eZ,lZ,aG,om,dB];grind
 by_cases h4:kind=4
 .subst h4;simp[c7,eZ,lZ,aG];grind
 by_cases h5:kind=5
 .subst h5;simp[c7,eZ,lZ,aG,ht,h0,dc];grind
 by_cases C:kind=6
 .subst C;simp[c7,eZ,lZ,aG,om,he];grind
 by_cases J:kind=7
 .subst J;simp[c7,eZ,lZ,aG,yd,he];grind
 by_cases M:kind=8
 .subst M;simp[c7,eZ,lZ,aG,yd,om];grind
 by_cases U:kind=9
 .subst U;simp[c7,eZ,lZ,aG,om,dB];grind
 simp[h1,h2,h3,h4,h5,C,J,M,U]
end Go.Argus
namespace Go.Proofs.Tryz.K
set_option maxRecDepth 10000
theorem LK{x:bd}{d0:D}{s:ByteArray}(M:p9 d0 x.args)(hs:s.size<=8):PCall prog 214 [.agg (tH x d0),S s] (B (bp x (cn s))):=by
 refine a7 VN (.cons (.agg (RP M)) (.cons (.s _) .nil)) (Tr.s _) ?_;rw[VO];refine au ?_;refine fW (pF (cs:=tH x d0) rfl) cY (RQ M) ?_;refine SS ?_;refine ab (aJ (aH (l:=[(1,S s),(2,.rp 0 0)]) (ml:=[(0,.cells (tH x d0) 66)]) eH eH) (aB (au ?_)));refine SS ?_
 refine ab (bZ (fun st=>∃ y d,Ghost prog st ⟨ax [(2,.rp 0 0)],bc [(0,.cells (tH y d) 66)],1⟩/\(cn s).foldl gP x=y/\p9 d y.args) (cP (α:=Nat×bd×D) (fun q=>⟨ax [(1,S s),(2,.rp 0 0),(5,I q.1)],bc [(0,.cells (tH q.2.1 q.2.2) 66)],1⟩)
  (fun q=>q.1<=s.size/\((cn s).take q.1).foldl gP x=q.2.1/\p9 q.2.2 q.2.1.args) (fun q=>s.size - q.1) (0,x,d0) (aH eH eH) ⟨Nat.zero_le _,rfl,M⟩ ?_) ?_)
 .rintro⟨k,y,d⟩ ⟨hk,hy,hd⟩;dsimp only at hk hy hd ⊢;refine aN ?_;refine ab ⟨_,rfl,fun h=>?_,fun h=>?_⟩
  .have al:k<s.size:=by simpa using h
   obtain⟨hm,hx⟩:=Ab al;generalize C:s.data.toList.getD (k:Int).toNat 0=z at hm hx;have J:((cn s).take (k+1)).foldl gP x=gP y z.toNat:=by rw[lL hx,hy]
   refine ws ?_;refine ap ?_;refine ab (nT (aj ?_));refine af ?_;refine ab (an rfl (fun h1=>fw ?_) fun h1=>aj ?_)
   .refine af ?_;refine ab ?_;show AOps _ _ _ _ _ _ _ _ _;refine ap ?_;refine ab (aP (k+1,{ y with to:=0 },d) (aH eH eH) ⟨oM,?_,hd⟩ oM);rw[C] at h1;rw[J,gP,if_pos (by simpa using h1)]
   rw[C] at h1;have h1:¬ (z.toNat:Int)=116:=by simpa using h1
   refine af ?_;refine ab (an rfl (fun h2=>fw ?_) fun h2=>aj ?_)
   .refine af ?_;refine ab ?_;show AOps _ _ _ _ _ _ _ _ _;refine ap ?_;refine ab (aP (k+1,{ y with a:=0 },d) (aH eH eH) ⟨oM,?_,hd⟩ oM);rw[C] at h2;rw[J,gP,if_neg h1,if_pos (by simpa using h2)]
   rw[C] at h2;have h2:¬ (z.toNat:Int)=97:=by simpa using h2
   refine af ?_;refine ab (an rfl (fun h3=>fw ?_) fun h3=>aj ?_)
   .refine af ?_;refine ab ?_;show AOps _ _ _ _ _ _ _ _ _;refine ap ?_;refine ab (aP (k+1,{ y with b:=0 },d) (aH eH eH) ⟨oM,?_,hd⟩ oM);rw[C] at h3;rw[J,gP,if_neg h1,if_neg h2,if_pos (by simpa using h3)]
   rw[C] at h3;have h3:¬ (z.toNat:Int)=98:=by simpa using h3
   refine af ?_;refine ab (an rfl (fun h4=>fw ?_) fun h4=>aj ?_)
   .refine af ?_;refine ab ?_;show AOps _ _ _ _ _ _ _ _ _;refine ap ?_;refine ab (aP (k+1,{ y with n:=0 },d) (aH eH eH) ⟨oM,?_,hd⟩ oM);rw[C] at h4;rw[J,gP,if_neg h1,if_neg h2,if_neg h3,if_pos (by simpa using h4)]
   rw[C] at h4;have h4:¬ (z.toNat:Int)=110:=by simpa using h4
   refine af ?_;refine ab (an rfl (fun h5=>fw ?_) fun h5=>?_)
   .refine af ?_;refine ab ?_;show AOps _ _ _ _ _ _ _ _ _;refine ap ?_;refine ab (aP (k+1,{ y with args:=[] },.z) (aH eH eH) ⟨oM,?_,.inr ⟨rfl,rfl⟩⟩ oM);rw[C] at h5;rw[J,gP,if_neg h1,if_neg h2,if_neg h3,if_neg h4,if_pos (by simpa using h5)]
   rw[C] at h5;have h5:¬ (z.toNat:Int)=108:=by simpa using h5
   refine cD ?_;show AOps _ _ _ _ _ _ _ _ _;refine ap ?_;refine ab (aP (k+1,y,d) (aH eH eH) ⟨oM,?_,hd⟩ oM);rw[J,gP,if_neg h1,if_neg h2,if_neg h3,if_neg h4,if_neg h5]
  .have X:¬ k<s.size:=by simpa using h
   rw[cL (by simp[cn];omega)] at hy;exact⟨y,d,aH eH eH,hy,hd⟩
 .rintro st ⟨y,d,hg,hy,hd⟩;refine⟨_,hg,aj ?_⟩;have hl:bp x (cn s)=iB y:=by rw[bp,hy]
  rw[hl];have U:((y.args.length:Int)=0)↔y.args=[]:=⟨fun h=>List.length_eq_zero_iff.1 oG,fun h=>by rw[h];rfl⟩
  rcases hd with rfl|⟨rfl,hd⟩
  .refine aQ ?_;refine aQ ?_;refine dF ?_;refine ab (aq (d:=.s (.bool _)) rfl ?_);simp[iB,aG,gK];grind
  .refine aQ ?_;refine aQ ?_;refine ap ?_;refine bl rfl rfl (Jx rfl) (fun hc=>⟨ak,V.h⟩) ?_;refine ap ?_;refine ab (aq (d:=.s (.bool _)) rfl ?_);simp[iB,aG,gK,hd];grind
theorem bJ{x:bd}{s:ByteArray}(C:s.size<=8):PCall prog 214 [.agg (a8 x),S s] (B (bp x (cn s))):=LK (d0:=aC x.args) (.inl rfl) C
set_option maxHeartbeats 1000000 in
theorem dJ{x:Argus.End}{s:ByteArray}(hs:s.size<=8):PCall prog 219 [.agg (aW x),S s] (B (c7 x (cn s))):=by
 refine a7 VP (.cons (.agg (iQ x)) (.cons (.s _) .nil)) (Tr.s _) ?_;rw[VQ];refine au ?_;refine af ?_;refine ab (aJ (aH (l:=[(1,S s),(2,.rp 0 0)]) (ml:=[(0,.cells (aW x) 69)]) eH eH) (aj ?_));refine SS ?_;refine ab (aB (au ?_));refine SS ?_
 refine ab (bZ (fun st=>∃ y J U,Ghost prog st ⟨ax [(2,.rp 0 0),(5,B ((cn s).any (·==104)))],bc [(0,.cells (LL y J U) 69)],1⟩/\(cn s).foldl eZ x=y/\p9 J y.ins.args/\p9 U y.args) (cP (α:=Nat×Argus.End×D×D) (fun q=>⟨ax [(1,S s),(2,.rp 0 0),(5,B (((cn s).take q.1).any (·==104))),(6,I q.1)],bc [(0,.cells (LL q.2.1 q.2.2.1 q.2.2.2) 69)],1⟩)
  (fun q=>q.1<=s.size/\((cn s).take q.1).foldl eZ x=q.2.1/\p9 q.2.2.1 q.2.1.ins.args/\p9 q.2.2.2 q.2.1.args) (fun q=>s.size - q.1) (0,x,aC x.ins.args,aC x.args) (aH eH eH) ⟨Nat.zero_le _,rfl,.inl rfl,.inl rfl⟩ ?_) ?_)
 .rintro⟨k,y,J,U⟩ ⟨hk,hy,cS,M⟩;dsimp only at hk hy cS M ⊢;refine aN ?_;refine ab ⟨_,rfl,fun h=>?_,fun h=>?_⟩
  .have al:k<s.size:=by simpa using h
   obtain⟨hm,hx⟩:=Ab al;generalize C:s.data.toList.getD (k:Int).toNat 0=z at hm hx;have bL:((cn s).take (k+1)).foldl eZ x=eZ y z.toNat:=by rw[lL hx,hy]
   have qa:((cn s).take (k+1)).any (·==104)=(((cn s).take k).any (·==104)||(z.toNat:Int)==104):=by rw[List.take_add_one,hx,List.any_append];simp
   generalize ((cn s).take k).any (·==104)=hb at qa;refine ws ?_;refine ap ?_;refine ab (nT (aj ?_));refine af ?_;refine ab (an rfl (fun h0=>fw ?_) fun h0=>aj ?_)
   .refine af ?_;refine ab ?_;show AOps _ _ _ _ _ _ _ _ _;refine ap ?_;rw[C] at h0;have h0:(z.toNat:Int)=97:=by simpa using h0
    refine ab (aP (k+1,{ y with a:=0 },J,U) (aH ⟨rfl,rfl,?_,rfl,trivial⟩ eH) ⟨oM,?_,cS,M⟩ oM)
    .show B hb=B (((cn s).take (k+1)).any (·==104));rw[qa,h0];simp
    .rw[bL,eZ,if_pos h0]
   rw[C] at h0;have h0:¬ (z.toNat:Int)=97:=by simpa using h0
   refine af ?_;refine ab (an rfl (fun h1=>fw ?_) fun h1=>aj ?_)
   .refine af ?_;refine ab ?_;show AOps _ _ _ _ _ _ _ _ _;refine ap ?_;rw[C] at h1;have h1:(z.toNat:Int)=98:=by simpa using h1
    refine ab (aP (k+1,{ y with b:=0 },J,U) (aH ⟨rfl,rfl,?_,rfl,trivial⟩ eH) ⟨oM,?_,cS,M⟩ oM)
    .show B hb=B (((cn s).take (k+1)).any (·==104));rw[qa,h1];simp
    .rw[bL,eZ,if_neg h0,if_pos h1]
   rw[C] at h1;have h1:¬ (z.toNat:Int)=98:=by simpa using h1
   refine af ?_;refine ab (an rfl (fun h2=>fw ?_) fun h2=>aj ?_)
   .refine af ?_;refine ab ?_;show AOps _ _ _ _ _ _ _ _ _;refine ap ?_;rw[C] at h2;have h2:(z.toNat:Int)=116:=by simpa using h2
    refine ab (aP (k+1,{ y with to:=0 },J,U) (aH ⟨rfl,rfl,?_,rfl,trivial⟩ eH) ⟨oM,?_,cS,M⟩ oM)
    .show B hb=B (((cn s).take (k+1)).any (·==104));rw[qa,h2];simp
    .rw[bL,eZ,if_neg h0,if_neg h1,if_pos h2]
   rw[C] at h2;have h2:¬ (z.toNat:Int)=116:=by simpa using h2
   refine af ?_;refine ab (an rfl (fun h3=>fw ?_) fun h3=>aj ?_)
   .refine af ?_;refine ab ?_;show AOps _ _ _ _ _ _ _ _ _;refine ap ?_;rw[C] at h3;have h3:(z.toNat:Int)=101:=by simpa using h3
    refine ab (aP (k+1,{ y with eD:=0 },J,U) (aH ⟨rfl,rfl,?_,rfl,trivial⟩ eH) ⟨oM,?_,cS,M⟩ oM)
    .show B hb=B (((cn s).take (k+1)).any (·==104));rw[qa,h3];simp
    .rw[bL,eZ,if_neg h0,if_neg h1,if_neg h2,if_pos h3]
   rw[C] at h3;have h3:¬ (z.toNat:Int)=101:=by simpa using h3
   refine af ?_;refine ab (an rfl (fun h4=>fw ?_) fun h4=>aj ?_)
   .refine af ?_;refine ab ?_;show AOps _ _ _ _ _ _ _ _ _;refine ap ?_;rw[C] at h4;have h4:(z.toNat:Int)=110:=by simpa using h4
    refine ab (aP (k+1,{ y with name:=.empty },J,U) (aH ⟨rfl,rfl,?_,rfl,trivial⟩ eH) ⟨oM,?_,cS,M⟩ oM)
    .show B hb=B (((cn s).take (k+1)).any (·==104));rw[qa,h4];simp
    .rw[bL,eZ,if_neg h0,if_neg h1,if_neg h2,if_neg h3,if_pos h4]
   rw[C] at h4;have h4:¬ (z.toNat:Int)=110:=by simpa using h4
   refine af ?_;refine ab (an rfl (fun h5=>fw ?_) fun h5=>aj ?_)
   .refine ap ?_;refine ab ?_;show AOps _ _ _ _ _ _ _ _ _;refine ap ?_;rw[C] at h5;have h5:(z.toNat:Int)=105:=by simpa using h5
    refine ab (aP (k+1,{ y with ins:=dc },.z,U) (aH ⟨rfl,rfl,?_,rfl,trivial⟩ eH) ⟨oM,?_,.inr ⟨rfl,rfl⟩,M⟩ oM)
    .show B hb=B (((cn s).take (k+1)).any (·==104));rw[qa,h5];simp
    .rw[bL,eZ,if_neg h0,if_neg h1,if_neg h2,if_neg h3,if_neg h4,if_pos h5]
   rw[C] at h5;have h5:¬ (z.toNat:Int)=105:=by simpa using h5
   refine af ?_;refine ab (an rfl (fun X=>fw ?_) fun X=>aj ?_)
   .refine af ?_;refine ab ?_;show AOps _ _ _ _ _ _ _ _ _;refine ap ?_;rw[C] at X;have X:(z.toNat:Int)=108:=by simpa using X
    refine ab (aP (k+1,{ y with args:=[] },J,.z) (aH ⟨rfl,rfl,?_,rfl,trivial⟩ eH) ⟨oM,?_,cS,.inr ⟨rfl,rfl⟩⟩ oM)
    .show B hb=B (((cn s).take (k+1)).any (·==104));rw[qa,X];simp
    .rw[bL,eZ,if_neg h0,if_neg h1,if_neg h2,if_neg h3,if_neg h4,if_neg h5,if_pos X]
   rw[C] at X;have X:¬ (z.toNat:Int)=108:=by simpa using X
   refine af ?_;refine ab (an rfl (fun h8=>fw ?_) fun h8=>?_)
   .refine SS ?_;refine ab ?_;show AOps _ _ _ _ _ _ _ _ _;refine ap ?_;rw[C] at h8;refine ab (aP (k+1,y,J,U) (aH ⟨rfl,rfl,?_,rfl,trivial⟩ eH) ⟨oM,?_,cS,M⟩ oM)
    .show B true=B (((cn s).take (k+1)).any (·==104));rw[qa,h8];simp
    .rw[bL,eZ,if_neg h0,if_neg h1,if_neg h2,if_neg h3,if_neg h4,if_neg h5,if_neg X]
   rw[C] at h8;refine cD ?_;show AOps _ _ _ _ _ _ _ _ _;refine ap ?_;refine ab (aP (k+1,y,J,U) (aH ⟨rfl,rfl,?_,rfl,trivial⟩ eH) ⟨oM,?_,cS,M⟩ oM)
   .show B hb=B (((cn s).take (k+1)).any (·==104));rw[qa,h8];simp
   .rw[bL,eZ,if_neg h0,if_neg h1,if_neg h2,if_neg h3,if_neg h4,if_neg h5,if_neg X]
  .have a9:¬ k<s.size:=by simpa using h
   rw[cL (by simp[cn];omega)] at hy ⊢;exact⟨y,J,U,aH eH eH,hy,cS,M⟩
 .rintro st ⟨y,J,U,hg,hy,cS,M⟩;refine⟨_,hg,aB (aj ?_)⟩
  have hl:c7 x (cn s)=(((cn s).any (·==104)||(aG y.az.length 0&&aG y.b7 (-1)))&&lZ y):=by
   have hw:∀ (l:List Int) (x:Argus.End),(l.foldl eZ x).az=x.az/\(l.foldl eZ x).b7=x.b7:=fun l=>by
    induction l with
    |nil=>exact fun _=>⟨rfl,rfl⟩
    |cons a l ih=>
     intro x
     have:(eZ x a).az=x.az/\(eZ x a).b7=x.b7:=by
      unfold eZ
      repeat' split
      all_goals exact⟨rfl,rfl⟩
     rw[List.foldl_cons,(ih _).1,(ih _).2,this.1,this.2];exact⟨rfl,rfl⟩
   obtain⟨h1,h2⟩:=hw (cn s) x;rw[hy] at h1 h2;rw[c7,hy,h1,h2]
  rw[hl];clear hl hy;generalize (cn s).any (·==104)=hb;have bJ:PCall prog 214 [.agg [U8 y.ins.op,I y.ins.to,I y.ins.a,I y.ins.b,I y.ins.n,J],S ⟨#[]⟩] (B (iB y.ins)):=LK (x:=y.ins) cS oC;refine aQ ?_;refine aN ?_;refine ab (cy rfl (fun h=>?_) fun h=>cu (aj ?_))
  .refine aB (aj ?_);refine SS ?_;refine ab (di (aq (d:=.s (.bool _)) rfl ?_));revert h;simp[aG];grind
  rcases M with rfl|⟨rfl,M⟩
  .refine aQ ?_;refine aQ ?_;refine aQ ?_;refine aQ ?_;refine af ?_;refine gc bJ ?_;refine af ?_;refine ab (aq (d:=.s (.bool _)) rfl ?_);revert h;simp[lZ,aG];grind
  .refine aQ ?_;refine aQ ?_;refine bH ?_;refine bl rfl rfl (Jx rfl) (fun hc=>⟨ak,V.h⟩) ?_;refine aQ ?_;refine af ?_;refine gc bJ ?_;refine af ?_;refine ab (aq (d:=.s (.bool _)) rfl ?_);revert h;simp[lZ,aG,M];grind
theorem nB{x:Argus.End}(hlen:x.az.length<=100000):PCall prog 145 [.agg (aW x)] (aC (cX x)):=by
 have aT:∀ a∈[D.agg (aW x)],Tr a:=.cons (.agg (iQ x)) .nil;refine a7 VR aT (cW _) ?_;rw[VS];refine au ?_;refine af ?_;refine ab (aJ (bj [(0,aW x,69)] eH (l:=[(1,.pt (aW x))]) eH) (au ?_));refine SS ?_;refine ab ⟨_,.nilrow _ _ _ 3 3 rfl,?_⟩;refine dA (sV x (ep x)) (aj ?_) fun s C=>?_
 .have yes:x.kind≠3/\x.kind≠4->ep x=[x.to]:=fun h=>by rw[ep,if_pos h]
  have no:¬ (x.kind≠3/\x.kind≠4)->ep x=[]:=fun h=>by rw[ep,if_neg h]
  have av:up (fun _=>(none:Option Row)) 1 (some (.cells [] 3)) 1=some (.cells [] 3):=up_same _ _ _;by_cases h3:x.kind=3
  .have ja:(x.kind !=3)=false:=by simp[h3]
   refine aN ?_;(iterate 3 refine z fun _ _=>?_);refine SS ?_;refine ab (an rfl (fun h=>oH) fun h=>aV ?_);rw[no (by simp[h3])];exact⟨_,_,_,Nat.lt_succ_self _,up_same _ _ _,ao eH⟩
  .by_cases h4:x.kind=4
   .have ja:(x.kind !=3)=true:=by simp[h4]
    have D':(x.kind !=4)=false:=by simp[h4]
    refine bH ?_;refine ab (an rfl (fun h=>(by simp[h4] at h)) fun h=>aV ?_);rw[no (by simp[h4])];exact⟨_,_,_,Nat.lt_succ_self _,up_same _ _ _,ao eH⟩
   .have ja:(x.kind !=3)=true:=by simp[h3]
    have D':(x.kind !=4)=true:=by simp[h4]
    refine bH ?_;refine ab (an rfl (fun h=>?_) fun h=>(by simp[h4] at h));refine fw ?_;refine bF ?_;refine ab ?_;rw[yes ⟨h3,h4⟩];exact⟨_,_,_,Nat.lt_succ_self _,up_same _ _ _,ao eH⟩
 obtain⟨r,m,nx,hr,av,hg⟩:=C;refine⟨_,hg,dA (sV x (j8 x)) (aj ?_) fun s C=>?_⟩
 .have J:j8 x=if x.kind=2\/x.kind=8 then ep x++[x.eD] else ep x:=rfl
  have M:(ep x).length<=1:=by unfold ep;split<;>simp
  generalize ep x=l at av J M;have X:(l.map I).length=l.length:=by simp
  by_cases h2:x.kind=2\/x.kind=8
  .rw[if_pos h2] at J;refine bH ?_;refine ab (an rfl (fun h=>fw ?_) fun h=>(by rcases h2 with h2|h2<;>simp[h2] at h));refine bF ?_;refine ab ?_;rw[J];refine⟨_,_,_,Nat.lt_succ_self _,(up_same _ _ _).trans (by rw[List.map_append];rfl),ao ⟨rfl,?_,trivial⟩⟩;show D.rs _ 0 _=D.rs _ 0 _;rw[List.length_append];rfl
  .rw[if_neg h2] at J;refine bH ?_;refine ab (an rfl (fun h=>(by exfalso;apply h2;revert h;by_cases e2:x.kind=2<;>by_cases e8:x.kind=8<;>simp[e2,e8])) fun h=>aV ?_);rw[J];exact⟨r,m,nx,hr,av,ao eH⟩
 clear hg hr av;obtain⟨r,m,nx,hr,av,hg⟩:=C;refine⟨_,hg,dA (sV x (cG x x.az.length)) (au ?_) fun s C=>?_⟩
 .refine SS ?_
  refine ab (cP (α:=Nat×Nat×Mem×Nat) (fun s=>⟨ax [(1,.pt (aW x)),(3,.rs s.2.1 0 (cG x s.1).length),(4,I s.1)],s.2.2.1,s.2.2.2⟩)
   (fun s=>s.1<=x.az.length/\s.2.1<s.2.2.2/\s.2.2.1 s.2.1=some (.cells ((cG x s.1).map I) 3)) (fun s=>x.az.length - s.1) (0,r,m,nx) (ao ⟨rfl,?_,rfl,trivial⟩) ⟨Nat.zero_le _,hr,?_⟩ ?_)
  .show D.rs r 0 _=D.rs r 0 _;simp[cG]
  .show m r=_;rw[av];simp[cG]
  clear hg hr av;rintro⟨j,r,m,nx⟩ ⟨hj,hr,av⟩;dsimp only at hj hr av ⊢;refine aR ?_;refine ab ⟨_,rfl,fun h=>?_,fun h=>?_⟩
  .have cI:j<x.az.length:=by simpa using h
   have hy:x.az[j]? =some x.az[j]:=aL cI;generalize x.az[j]=w at hy;have U:=HS hy;have sR:(cG x (j+1)).length=(cG x j).length+1:=by rw[U];simp
   have X:((cG x j).map I).length=(cG x j).length:=by simp
   have M:(cG x j).length<=2+j:=by have:=wW x;unfold cG;simp;omega
   generalize cG x j=l at av U X sR M;refine fJ ?_;refine bH ?_;refine af ?_;refine ab ?_;refine ap ?_;refine ab (aP (j+1,nx+1,_,_) (ao ⟨rfl,?_,rfl,trivial⟩) ⟨oM,oM,?_⟩ oM)
   .show D.rs _ 0 _=D.rs _ 0 _;rw[sR]
   .dsimp only;rw[U,List.map_append];exact up_same _ _ _
  .have a9:¬ j<x.az.length:=by simpa using h
   have:j=x.az.length:=by omega
   subst this;exact⟨r,m,nx,hr,av,ao eH⟩
 clear hg hr av;obtain⟨r,m,nx,hr,av,hg⟩:=C;refine⟨_,hg,dA (sV x (cX x)) (aj ?_) fun s C=>?_⟩
 .have hd:cX x=if 0<=x.b7 then cG x x.az.length++[x.b7] else cG x x.az.length:=rfl
  have M:(cG x x.az.length).length<=2+x.az.length:=by have:=wW x;unfold cG;simp;omega
  generalize cG x x.az.length=l at av hd M;have X:(l.map I).length=l.length:=by simp
  refine ap ?_;refine ab (an rfl (fun h=>fw ?_) fun h=>aV ?_)
  .rw[if_pos (by simpa using h)] at hd;refine bF ?_;refine ab ?_;rw[hd];refine⟨_,_,_,Nat.lt_succ_self _,(up_same _ _ _).trans (by rw[List.map_append];rfl),ao ⟨rfl,?_,trivial⟩⟩;show D.rs _ 0 _=D.rs _ 0 _;rw[List.length_append];rfl
  .rw[if_neg (by simpa using h)] at hd;rw[hd];exact⟨r,m,nx,hr,av,ao eH⟩
 clear hg hr av;obtain⟨r,m,nx,hr,av,hg⟩:=C;refine⟨_,hg,au ?_⟩;refine af ?_;refine ab (aJ (bj [(r,(cX x).map I,3)] ⟨av,trivial⟩ (l:=[(2,aC (cX x))]) ⟨iA (sz:=1) c3 (by rw[List.drop_zero,cL oS]),trivial⟩) (aq rfl rfl))
theorem FU{l:List Int}{n:Int}(hl:l.length<=100000):PCall prog 92 [aC l,I n] (aC (gQ l n)):=by
 refine a7 Y3 (.cons (cW _) (.cons (.s _) .nil)) (cW _) ?_;rw[Y4];refine ws ?_;refine SS ?_;refine ab (au ?_);refine SS ?_
 refine ab (bZ (fun st=>∃ k:Nat,Ghost prog st ⟨ax [(0,aC l),(1,I n),(5,I k)],fun _=>none,0⟩/\k<=l.length/\(∀ (j:Nat) y,j<k->l[j]? =some y->y<n)/\∀ y,l[k]? =some y->¬ y<n) (z9 (α:=Nat) (fun k=>⟨ax [(0,aC l),(1,I n),(5,I k)],fun _=>none,0⟩)
  (fun k=>k<=l.length/\∀ (j:Nat) y,j<k->l[j]? =some y->y<n) (fun k=>l.length - k) 0 (ao eH) ⟨Nat.zero_le _,fun j y hj=>by omega⟩ ?_) ?_)
 .rintro k ⟨hk,hinv⟩;by_cases al:k<l.length
  .have hx:l[k]? =some l[k]:=aL al;generalize l[k]=y at hx;have sm:decide ((k:Int)<(l.length:Int))=true:=decide_eq_true oG;refine aQ ?_;refine ap ?_;refine ab ⟨_,rfl,fun h=>?_,fun h=>?_⟩
   .have hy:y<n:=by simpa using h
    refine fJ ?_;refine ap ?_;refine ab (aP (k+1) (ao eH) ⟨oG,fun j J hj M=>?_⟩ oG);by_cases e:j=k
    .subst e;rw[hx] at M;cases M;exact hy
    .exact hinv j J oG M
   .have hy:¬ y<n:=by simpa using h
    exact⟨k,ao eH,hk,hinv,fun J M=>by rw[hx] at M;cases M;exact hy⟩
  .have sm:decide ((k:Int)<(l.length:Int))=false:=decide_eq_false oG;refine aR ?_;(iterate 6 refine z fun _ _=>?_);refine SS ?_;refine ab ⟨_,rfl,fun h=>oH,fun h=>?_⟩;exact⟨k,ao eH,hk,hinv,fun J M=>by have:=(bA.1 M).1;omega⟩
 .rintro st ⟨k,hg,hk,hinv,aX⟩;have X:=JY hk hinv aX;refine⟨_,hg,aB (aj ?_)⟩;by_cases bB:l[k]? =some n
  .rw[if_pos bB] at X;have sm:decide ((k:Int)<(l.length:Int))=true:=decide_eq_true (by have:=(bA.1 bB).1;omega);refine aQ ?_;refine ap ?_;refine ab (cy rfl (fun h=>?_) fun h=>(by simp at h));refine aB (aj ?_);refine af ?_;refine ab (di (aq rfl ?_));rw[X];rfl
  rw[if_neg bB] at X
  have lx:((l.map I).drop ((0:Int).toNat*1)).take (((k:Int) - 0).toNat*1)=(l.take k).map I:=by
   rw[show(0:Int).toNat*1=0 by simp,show((k:Int) - 0).toNat*1=k by omega,List.drop_zero,List.map_take]
  have uu:((l.map I).drop ((k:Int).toNat*1)).take (((l.length:Int) - k).toNat*1)=(l.drop k).map I:=by
   rw[show(k:Int).toNat*1=k by omega, <- List.map_drop,cL (by simp;try omega)]
  have FV:((l.take k).map I).take (((k:Int) - 0).toNat*1)=(l.take k).map I:=cL (by simp;try omega);have FW:((l.drop k).map I).take (((l.length:Int) - k).toNat*1)=(l.drop k).map I:=cL (by simp;try omega);have sW:((l.take k).map I).length=k:=by simp;omega
  have FX:((l.drop k).map I).length=l.length - k:=by simp
  have U:((l.take k).map I++[I n])++(l.drop k).map I=(l.take k++n::l.drop k).map I:=by simp
  have hlen:(l.take k++n::l.drop k).length=l.length+1:=by simp;omega
  rw[X];generalize l.take k++n::l.drop k=J at U hlen;generalize (l.take k).map I=A at lx FV sW U;generalize (l.drop k).map I=C at uu FW FX U;by_cases al:k<l.length
  .have hx:l[k]? =some l[k]:=aL al;have aI:l[k]≠n:=fun e=>bB (by rw[hx,e]);generalize l[k]=y at hx aI;have sm:decide ((k:Int)<(l.length:Int))=true:=decide_eq_true oG;have fE:(y==n)=false:=by simpa using aI
   refine aQ ?_;refine ap ?_;refine ab (cy rfl (fun h=>oH) fun h=>cu (aj ?_));refine ap ?_;refine aD (uS (es':=A) rfl zi c3 rfl rfl lx) cY ⟨yA,oG,oG,oG⟩ ?_;have ou:=FV;refine aR ?_;refine ab (au ?_);refine ap ?_;refine aD (uS (es':=C) rfl zi c3 rfl rfl uu) cY ⟨yA,oG,oG,oG⟩ ?_;have ou:=FW;refine af ?_;refine ab (aJ (bj [(4,J.map I,3)] ⟨by rw[<- U];rfl,trivial⟩ (l:=[(4,aC J)]) ⟨?_,trivial⟩) (aU (aq rfl rfl)));show oO _ [(4,_,3)] (.rs 4 0 (0+((k:Int) - 0).toNat+1+((l.length:Int) - k).toNat))=_;rw[show 0+((k:Int) - 0).toNat+1+((l.length:Int) - k).toNat=J.length by omega];exact iA (sz:=1) c3 (by rw[List.drop_zero,cL oS])
  .have sm:decide ((k:Int)<(l.length:Int))=false:=decide_eq_false oG;refine aR ?_;(iterate 6 refine z fun _ _=>?_);refine SS ?_;refine ab (cy rfl (fun h=>oH) fun h=>cu (aj ?_));refine ap ?_;refine aD (uS (es':=A) rfl zi c3 rfl rfl lx) cY ⟨yA,oG,oG,oG⟩ ?_;have ou:=FV;refine aR ?_;refine ab (au ?_);refine ap ?_;refine aD (uS (es':=C) rfl zi c3 rfl rfl uu) cY ⟨yA,oG,oG,oG⟩ ?_;have ou:=FW;refine af ?_;refine ab (aJ (bj [(4,J.map I,3)] ⟨by rw[<- U];rfl,trivial⟩ (l:=[(4,aC J)]) ⟨?_,trivial⟩) (aU (aq rfl rfl)));show oO _ [(4,_,3)] (.rs 4 0 (0+((k:Int) - 0).toNat+1+((l.length:Int) - k).toNat))=_;rw[show 0+((k:Int) - 0).toNat+1+((l.length:Int) - k).toNat=J.length by omega];exact iA (sz:=1) c3 (by rw[List.drop_zero,cL oS])
end Go.Proofs.Tryz.K
end
namespace Go.Argus
open Go Go.Abs
open Go.Proofs.Tryz.K (nextR)
theorem s8{α:Type}{l:List α}{k i:Nat}{x d:α}(hk:k<l.length):(l.set k x).getD i d=if i=k then x else l.getD i d:=by
 rw[bD,List.getElem?_set,bD];by_cases h:k=i
 .subst h;rw[if_pos rfl,if_pos rfl,if_pos hk];rfl
 .rw[if_neg h,if_neg fun e=>h e.symm]
theorem eB.M3{n:Nat}{s:CS}(h:eB n s){b:Nat}(hb:b<n):eu (s.ws.getD b []):=by
 have hl:b<s.ws.length:=by rw[h.lw];exact hb
 have hx:s.ws[b]? =some s.ws[b]:=aL hl;rw[getD_some hx];have hm:s.ws[b]∈s.ws:=bR _;exact⟨h.gV _ hm,h.rg _ hm⟩
structure Cert where
 any:Bool
 is:List Bool
def eM(R i:Nat):Nat:=if i<R then i else 1200+(i - R)
def bM(R n:Nat)(w:List Int):List Bool:=(List.range n).map fun i=>dD w (eM R i)
def js(R n:Nat)(w:List Int):Prop:=∀ r,dD w r=true->∃ i,i<n/\r=eM R i
def gz(c:Cert)(r:Int):Cert:=if r= -1 then c else⟨c.any,c.is.set r.toNat true⟩
def qV(R:Nat)(c:Cert)(x:bd):Cert:=if x.op=18 then gz (gz c (cN x)) ((R:Int)+x.n) else gz c (cN x)
def dN(R:Nat)(l:List bd)(c:Cert):Cert:=l.foldl (qV R) c
def jV(x:End)(to:Int)(c:Cert):Cert:=if x.to≠to\/(cX x).tail.any (·==to)=true\/x.kind=3\/x.kind=4 then c else gz c (dw x)
def l5(a b:Cert):Cert:=if a.any=true then b else if b.any=true then a else⟨false,List.zipWith (fun x y=>x&&y) a.is b.is⟩
def nN(c:Cert)(rs:List Int):Bool:=rs.all fun r=>c.is.getD r.toNat false
theorem wP(R n:Nat)(w:List Int):(bM R n w).length=n:=by simp[bM]
theorem pE{R n i:Nat}{w:List Int}(h:i<n):(bM R n w)[i]? =some (dD w (eM R i)):=by simp[bM,h]
theorem u4{R n i:Nat}{w:List Int}(h:¬ i<n):(bM R n w)[i]? =none:=by simp[bM];omega
theorem S4{R i j:Nat}(hR:R<=1200)(h:eM R i=eM R j):i=j:=by
 unfold eM at h;split at h<;>split at h<;>omega
theorem S5{w:List Int}(h:w.length=20){r:Nat}(hr:¬ r<1280):dD w r=false:=by
 unfold dD;rw[bD,List.getElem?_eq_none (by rw[h];omega)];simp
section
variable{R n:Nat}(hR:R<=1200)(hn:n<=R+60)
include hR hn
theorem TX{i:Nat}(h:i<n):eM R i<1280:=by unfold eM;split<;>omega
theorem Hq{w:List Int}(C:eu w){i:Nat}(h:i<n)(r:Nat):dD (fA w (eM R i:Nat)) r=(dD w r||decide (r=eM R i)):=by
 have:=TX hR hn h;unfold fA;rw[if_pos oG,dg,R8 C.all (by rw[C.len];omega)]
theorem z2{w:List Int}(C:eu w){i:Nat}(h:i<n):(bM R n w).set i true=bM R n (fA w (eM R i:Nat)):=by
 apply List.ext_getElem?;intro j;rw[List.getElem?_set];by_cases hj:j<n
 .rw[pE hj,pE hj,Hq hR hn C h];by_cases e:i=j
  .subst e;simp[wP,h]
  .rw[if_neg e];have:¬ eM R j=eM R i:=fun h=>e (S4 hR h).symm;simp[this]
 .rw[u4 hj,u4 hj];split
  .rw[wP,if_neg oG]
  .rfl
theorem zN{w:List Int}(J:eu w)(C:js R n w){i:Nat}(h:i<n):js R n (fA w (eM R i:Nat)):=fun r hr=>by
 rw[Hq hR hn J h,Bool.or_eq_true] at hr;rcases hr with hr|hr
 .exact C r hr
 .exact⟨i,h,by simpa using hr⟩
omit hR hn in
theorem R9{w v:List Int}(C:eu w)(hv:eu v):List.zipWith (fun x y=>x&&y) (bM R n w) (bM R n v)=bM R n (fB w v):=by
 apply List.ext_getElem?;intro j;rw[List.getElem?_zipWith];by_cases hj:j<n
 .rw[pE hj,pE hj,pE hj,CO C hv]
 .rw[u4 hj,u4 hj,u4 hj]
omit hR hn in
theorem Hr{w v:List Int}(J:eu w)(hv:eu v)(C:js R n v):js R n (fB w v):=fun r hr=>by
 rw[CO J hv,aM] at hr;exact C r hr.2
omit hR hn in
theorem S6{w v:List Int}(J:eu w)(hv:eu v)(C:js R n w)(M:js R n v)(h:bM R n w=bM R n v):w=v:=by
 refine Hs J.all hv.all (by rw[J.len,hv.len]) fun r=>?_
 have hb:∀ i,i<n->dD w (eM R i)=dD v (eM R i):=fun i hi=>by
  have:=congrArg (fun l:List Bool=>l[i]?) h;simpa only[pE hi,aF] using this
 cases e1:dD w r with
 |true=>
  obtain⟨i,hi,rfl⟩:=C r e1;rw[<- hb i hi,e1]
 |false=>
  cases e2:dD v r with
  |false=>rfl
  |true=>
   obtain⟨i,hi,rfl⟩:=M r e2;rw[hb i hi,e2] at e1;cases e1
end
def pV:List Int:=List.replicate 20 iE
theorem CR:eu pV:=⟨by simp[pV],fun u C=>by rw[List.eq_of_mem_replicate C];simp[dq,iE]⟩
theorem R'{r:Nat}(h:r<1280):dD pV r=true:=by
 have h1:pV.getD (r / 64) 0=iE:=by
  unfold pV;rw[bD,List.getElem?_replicate,if_pos oG];rfl
 unfold dD;rw[h1];have h2:r % 64<64:=Nat.mod_lt _ oC;have h3:iE.toNat=2 ^ 64 - 1:=rfl;rw[h3,Nat.testBit_two_pow_sub_one];simpa using h2
theorem QV{w:List Int}(C:eu w):fB pV w=w:=by
 refine Hs (CR.E0 C).all C.all (by rw[(CR.E0 C).len,C.len]) fun r=>?_;rw[CO CR C];by_cases h:r<1280
 .rw[R' h,Bool.true_and]
 .rw[S5 C.len h,Bool.and_false]
structure tW(R n:Nat)(x:bd):Prop where
 w:cN x= -1\/∃ i:Nat,i<R/\cN x=i
 s:x.op=18->∃ i:Nat,R+i<n/\x.n=i
theorem H7{R n:Nat}(hR:R<=1200)(hn:n<=R+60)(mQ:R<=n){w:List Int}{x:bd}(h:tW R n x)(C:eu w)(M:js R n w):
 qV R ⟨false,bM R n w⟩ x=⟨false,bM R n (rX w x)⟩/\eu (rX w x)/\js R n (rX w x):=by
 have X:∀ {v:List Int},fA v (-1)=v:=fun {v}=>by unfold fA;rw[if_neg oG]
 have U:∀ {i:Nat},i<R->((i:Nat):Int)=(eM R i:Nat):=fun {i} hi=>by unfold eM;rw[if_pos hi]
 unfold qV rX;by_cases J:x.op=18
 .obtain⟨i,hi,e⟩:=h.s J;have qk:cN x= -1:=by simp[cN,aE,jG,kV,J]
  have hp:ik x.n=(eM R (R+i):Nat):=by rw[e];unfold ik eM;rw[if_neg oG];omega
  rw[if_pos J,if_pos J,qk,hp];refine⟨?_,C.fA _,zN hR hn C M hi⟩;unfold gz;rw[if_pos rfl,if_neg oG,e, <- z2 hR hn C hi];congr 2
 .rw[if_neg J,if_neg J];rcases h.w with e|⟨i,hi,e⟩
  .rw[e,X];exact⟨if_pos rfl,C,M⟩
  .rw[e,U hi];refine⟨?_,C.fA _,zN hR hn C M oG⟩;unfold gz;rw[if_neg oG, <- z2 hR hn C oG, <- U hi,dg]
theorem wQ{R n:Nat}(hR:R<=1200)(hn:n<=R+60)(C:R<=n):∀ {l:List bd} (_:∀ x∈l,tW R n x) {w:List Int} {ok:Bool} (_:eu w) (_:js R n w),
 dN R l ⟨false,bM R n w⟩=⟨false,bM R n (l.foldl kC (w,ok)).1⟩/\eu (l.foldl kC (w,ok)).1/\js R n (l.foldl kC (w,ok)).1
 |[],_,w,ok,hw,ho=>⟨rfl,hw,ho⟩
 |x::l,h,w,ok,hw,ho=>by
  obtain⟨h1,h2,h3⟩:=H7 hR hn C (h x oS) hw ho;unfold dN;rw[List.foldl_cons,List.foldl_cons,h1];exact wQ hR hn C (fun y hy=>h y (by simp[hy])) h2 h3
theorem count_tail{l:List Int}{a b:Int}(h:a=b):((a::l).count b=1)↔l.any (·==b)=false:=by
 subst h;rw[List.count_cons_self,List.any_eq_false];constructor
 .intro h x hx;have h0:l.count a=0:=by omega
  rw[List.count_eq_zero] at h0;intro e;have:x=a:=by simpa using e
  subst this;exact h0 hx
 .intro h;have:l.count a=0:=List.count_eq_zero.2 fun hm=>h a hm oS;omega
theorem H8{R n:Nat}(hR:R<=1200)(hn:n<=R+60)(mQ:R<=n){x:End}(he:cX x=cx x)(mO:dw x= -1\/∃ i:Nat,i<R/\dw x=i){to:Int}{w:List Int}(C:eu w)(M:js R n w):
 jV x to ⟨false,bM R n w⟩=⟨false,bM R n (eW x to w)⟩/\eu (eW x to w)/\js R n (eW x to w):=by
 have aI:∀ {v:List Int},fA v (-1)=v:=fun {v}=>by unfold fA;rw[if_neg oG]
 have X:u9 x to=true↔¬ (x.to≠to\/(cX x).tail.any (·==to)=true\/x.kind=3\/x.kind=4):=by
  unfold u9;rw[aM,ko,ko,he];unfold cx;by_cases J:x.kind=3\/x.kind=4
  .rw[if_pos (by simpa[aE] using J)];simp[J]
  .rw[if_neg (by simpa[aE] using J),List.tail_cons];generalize ((if aE [2,8] x.kind=true then [x.eD] else [])++(x.az.map (·.to)++if fG x=true then [x.b7] else []))=l;constructor
   .rintro⟨h1,h2⟩ h;rcases h with h|h|h|h
    .exact h h1
    .have:=(count_tail (l:=l) h1).1 oG;rw[this] at h;cases h
    .exact J (.inl h)
    .exact J (.inr h)
   .intro h;have h1:x.to=to:=Classical.byContradiction fun e=>h (.inl e);refine⟨h1,?_⟩;have:=(count_tail (l:=l) h1).2 (Bool.eq_false_iff.2 fun e=>h (.inr (.inl e)));omega
 unfold jV eW;by_cases ha:u9 x to=true
 .rw[if_pos ha,if_neg (X.1 ha)];rcases mO with e|⟨i,hi,e⟩
  .rw[e,aI];exact⟨if_pos rfl,C,M⟩
  .have U:((i:Nat):Int)=(eM R i:Nat):=by unfold eM;rw[if_pos hi]
   rw[e,U];refine⟨?_,C.fA _,zN hR hn C M oG⟩;unfold gz;rw[if_neg oG, <- z2 hR hn C oG, <- U,dg]
 .rw[if_neg ha,if_pos (Classical.byContradiction fun h=>ha (X.2 h))];exact⟨rfl,C,M⟩
structure l7(R n N:Nat)(s:CS):Prop where
 ok:eB N s
 yes:∀ k,k<N->s.re.getD k false=true->js R n (s.ws.getD k [])
 no:∀ k,k<N->s.re.getD k false=false->s.ws.getD k []=pV
def bO(R n:Nat)(s:CS)(k:Nat):Cert:=if s.re.getD k false=true then⟨false,bM R n (s.ws.getD k [])⟩ else⟨true,List.replicate n false⟩
def vN(x:End)(R n:Nat)(w:List Int)(s:CS)(t:Nat):Cert:=l5 (bO R n s t) (jV x t ⟨false,bM R n w⟩)
theorem IB{R n N:Nat}(hR:R<=1200)(hn:n<=R+60)(mQ:R<=n){s:CS}(C:l7 R n N s){x:End}(he:cX x=cx x)(mO:dw x= -1\/∃ i:Nat,i<R/\dw x=i){t:Nat}(ht:t<N)
 {w:List Int} (hw:eu w) (ho:js R n w):
 l7 R n N (bY x w s t)/\((vN x R n w s t=bO R n s t/\bY x w s t=s)\/((vN x R n w s t).any≠(bO R n s t).any\/(vN x R n w s t).is≠(bO R n s t).is)/\(bY x w s t).ch=true/\
  ∀ k,bO R n (bY x w s t) k=if k=t then vN x R n w s t else bO R n s k):=by
 obtain⟨o1,M,U⟩:=H8 hR hn mQ he mO (to:=(t:Int)) hw ho;have hlw:s.ws.length=N:=C.ok.lw;have hlr:s.re.length=N:=C.ok.lr;have jA:=C.ok.M3 ht;have Oq:=(zw (x:=x) (w:=w) (t:=(t:Int)) C.ok ⟨oG,oG⟩).1;unfold vN;rw[o1];generalize hv:eW x t w=v at M U
 have key:∀ u:List Int,(s.re.getD t false=true->u≠s.ws.getD t [])->fB (s.ws.getD t []) v=u->js R n u->l5 (bO R n s t) ⟨false,bM R n v⟩=⟨false,bM R n u⟩->(⟨false,bM R n u⟩:Cert).any≠(bO R n s t).any\/bM R n u≠(bO R n s t).is->
  l7 R n N (bY x w s t)/\((l5 (bO R n s t) ⟨false,bM R n v⟩=bO R n s t/\bY x w s t=s)\/((l5 (bO R n s t) ⟨false,bM R n v⟩).any≠(bO R n s t).any\/(l5 (bO R n s t) ⟨false,bM R n v⟩).is≠(bO R n s t).is)/\(bY x w s t).ch=true/\
  ∀ k,bO R n (bY x w s t) k=if k=t then l5 (bO R n s t) ⟨false,bM R n v⟩ else bO R n s k):=fun u hu hm hou hb aI=>by
  have jC:bY x w s t=⟨s.ws.set t u,s.re.set t true,true⟩:=by
   unfold bY;rw[dg,hv,hm,if_pos];cases e:s.re.getD t false with
   |false=>exact .inl rfl
   |true=>exact .inr (hu e)
  rw[jC] at Oq ⊢;have X:∀ k,(s.ws.set t u).getD k []=if k=t then u else s.ws.getD k []:=fun k=>s8 oG
  have rC:∀ k,(s.re.set t true).getD k false=if k=t then true else s.re.getD k false:=fun k=>s8 oG
  refine⟨⟨Oq,fun k hk h=>?_,fun k hk h=>?_⟩,.inr ⟨?_,rfl,fun k=>?_⟩⟩
  .rw[X];rw[rC] at h;by_cases e:k=t
   .rw[if_pos e];exact hou
   .rw[if_neg e] at h ⊢;exact C.yes k hk h
  .rw[X];rw[rC] at h;by_cases e:k=t
   .rw[if_pos e] at h;cases h
   .rw[if_neg e] at h ⊢;exact C.no k hk h
  .rw[hb];exact aI
  .rw[hb];unfold bO;rw[X,rC];by_cases e:k=t
   .rw[if_pos e,if_pos e,if_pos e,if_pos rfl]
   .rw[if_neg e,if_neg e,if_neg e]
 cases J:s.re.getD t false with
 |false=>
  have hc:bO R n s t=⟨true,List.replicate n false⟩:=by unfold bO;rw[J];rfl
  refine key v (fun h=>by rw[J] at h;cases h) (by rw[C.no t ht J,QV M]) U ?_ (.inl ?_)
  .rw[hc];rfl
  .rw[hc];simp
 |true=>
  have hc:bO R n s t=⟨false,bM R n (s.ws.getD t [])⟩:=by unfold bO;rw[J];rfl
  have hb:l5 (bO R n s t) ⟨false,bM R n v⟩=⟨false,bM R n (fB (s.ws.getD t []) v)⟩:=by
   rw[hc];unfold l5;rw[if_neg oS,if_neg oS,R9 jA M]
  by_cases hm:fB (s.ws.getD t []) v=s.ws.getD t []
  .have jC:bY x w s t=s:=by
    unfold bY;rw[dg,hv,hm,J,if_neg oS]
   rw[jC,hb,hm,hc];exact⟨C,.inl ⟨rfl,rfl⟩⟩
  .refine key _ (fun _=>hm) rfl (Hr jA M U) hb (.inr fun e=>hm ?_);rw[hc] at e;exact S6 (jA.E0 M) jA (Hr jA M U) (C.yes t ht J) e
theorem IA{R n N:Nat}{s:CS}(h:l7 R n N s)(c:Bool):l7 R n N ⟨s.ws,s.re,c⟩:=⟨⟨h.ok.lw,h.ok.lr,h.ok.gV,h.ok.rg⟩,h.yes,h.no⟩
theorem Hh{R n N args:Nat}(hR:R<=1200)(hn:n<=R+60)(mQ:R<=n)(U:0<N)(ha:args<=R):l7 R n N (gY N args)/\bO R n (gY N args) 0=⟨false,List.replicate args true++List.replicate (n - args) false⟩/\
 ∀ k,0<k->k<N->bO R n (gY N args) k=⟨true,List.replicate n false⟩:=by
 have hA:∀ k,k<=R->eu (fU k)/\js R n (fU k)/\bM R n (fU k)=List.replicate k true++List.replicate (n - k) false:=fun k=>by
  induction k with
  |zero=>
   intro _;have X:∀ r,dD (fU 0) r=false:=Sa 20;refine⟨⟨oS,zy 0⟩,(fun r hr=>by rw[X r] at hr;cases hr),?_⟩;apply List.ext_getElem?;intro j;by_cases hj:j<n
   .rw[pE hj,X];simp[hj]
   .rw[u4 hj];simp;omega
  |succ k ih=>
   intro hk;obtain⟨h1,h2,h3⟩:=ih oG;have iF:((k:Nat):Int)=(eM R k:Nat):=by unfold eM;rw[if_pos oG]
   have he:fU (k+1)=fA (fU k) (eM R k:Nat):=by rw[<- iF];rfl
   rw[he];refine⟨h1.fA _,zN hR hn h1 h2 oG,?_⟩;rw[<- z2 hR hn h1 oG,h3,Dh oG]
 obtain⟨h1,h2,h3⟩:=hA args ha;have J:∀ k,(gY N args).ws.getD k []=if k=0 then fU args else(List.replicate N pV).getD k []:=fun k=>s8 (by simpa using U)
 have C:∀ k,(gY N args).re.getD k false=if k=0 then true else(List.replicate N false).getD k false:=fun k=>s8 (by simpa using U)
 have M:∀ k,k<N->(List.replicate N pV).getD k []=pV:=fun k hk=>by rw[bD,List.getElem?_replicate,if_pos hk];rfl
 have rr:∀ k,(List.replicate N false).getD k false=false:=fun k=>by
  rw[bD,List.getElem?_replicate];split<;>rfl
 refine⟨⟨BZ (zy args),fun k hk h=>?_,fun k hk h=>?_⟩,?_,fun k h0 hk=>?_⟩
 .rw[C] at h;rw[J];by_cases e:k=0
  .rw[if_pos e];exact h2
  .rw[if_neg e,rr] at h;cases h
 .rw[C] at h;rw[J];by_cases e:k=0
  .rw[if_pos e] at h;cases h
  .rw[if_neg e];exact M k hk
 .unfold bO;rw[C,J,if_pos rfl,if_pos rfl,if_pos rfl,h3]
 .unfold bO;rw[C,if_neg (show ¬ k=0 by omega),rr];rfl
end Go.Argus
section
open Go Go.Abs Go.Proofs Go.Argus
namespace Go.Abs
theorem Iw{P:Program}{st:St}{a n:Nat}{ty:TypeId}{cs vs:List D}(ha:st.env a=.pt cs)(hg:aggP P ty=true)(hc:P.cellsOf ty=n)(hv:cs.take n=vs)(ht:tyOk P ty=true)(hl:n<=cs.length):
 ∃ p,resD P st (.cell a ty)=some (p,.agg vs)/\p:=⟨tyOk P ty=true/\n<=cs.length,by simp only[resD,ha,takeV,hg,if_true,hc,hv],ht,hl⟩
end Go.Abs
namespace Go.Argus
def bQ(c:Cert):List D:=[B c.any,c6 c.is]
@[simp] theorem abQ (c : Cert) : (bQ c).length = 2 := rfl
theorem pJ(c:Cert):∀ a∈bQ c,Tr a:=.cons (.s _) (.cons (.sl (.map fun _=>.s _)) .nil)
theorem zL(c:Cert)(r:Int):(gz c r).is.length=c.is.length:=by unfold gz;split<;>simp
theorem RS(R:Nat)(c:Cert)(x:bd):(qV R c x).is.length=c.is.length:=by unfold qV;split<;>simp[zL]
theorem wI(R:Nat):∀ (l:List bd) (c:Cert),(dN R l c).is.length=c.is.length
 |[],_=>rfl
 |x::l,c=>by
  unfold dN;rw[List.foldl_cons];exact(wI R l _).trans (RS R c x)
theorem He(x:End)(to:Int)(c:Cert):(jV x to c).is.length=c.is.length:=by unfold jV;split<;>simp[zL]
def yB(n:Nat)(r:Int):Prop:=r= -1\/∃ i:Nat,i<n/\r=i
theorem cr{l:List Int}{n c:Int}(h:(n==c)=true)(hm:c∈l):B (n==c)=B (aE l n):=by
 have:aE l n=true:=List.any_eq_true.2 ⟨c,hm,h⟩;rw[h,this]
end Go.Argus
namespace Go.Proofs.Tryz.K
set_option maxRecDepth 10000
theorem oB{c:Cert}{rs:List Int}(J:∀ r∈rs,∃ i:Nat,i<c.is.length/\r=i):PCall prog 122 [.agg (bQ c),aC rs] (B (nN c rs)):=by
 have C:∀ a∈[D.agg (bQ c),aC rs],Tr a:=.cons (.agg (pJ c)) (.cons (cW _) .nil);refine lK LM.he C fun U=>?_;have hlen:=(U (aC rs) oS).sl.1;unfold maxLen at hlen;refine a7 LM C (Tr.s _) ?_;rw[VT];refine au ?_;refine af ?_;refine ab (aJ (bj [(0,bQ c,158)] eH (l:=[(1,aC rs),(2,.pt (bQ c))]) eH) (aB (au ?_)));refine SS ?_
 refine ab (bZ (fun s=>Ghost prog s ⟨ax [],fun _=>none,1⟩/\∀ (j:Nat) y,rs[j]? =some y->c.is.getD y.toNat false=true) (cP (α:=Nat) (fun k=>⟨ax [(1,aC rs),(2,.pt (bQ c)),(5,I k)],fun _=>none,1⟩)
  (fun k=>k<=rs.length/\∀ j y,j<k->rs[j]? =some y->c.is.getD y.toNat false=true) (fun k=>rs.length - k) 0 (ao eH) ⟨oG,fun j y hj=>by omega⟩ ?_) ?_)
 .rintro k ⟨hk,hinv⟩;refine aN ?_;refine ab ⟨_,rfl,fun h=>?_,fun h=>?_⟩
  .have al:k<rs.length:=by simpa using h
   have hx:rs[k]? =some rs[k]:=aL al;obtain⟨i,hi,e⟩:=J _ (bR al);have hy:c.is[i]? =some c.is[i]:=aL hi;rw[e] at hx;clear e
   have hg:∀ y,rs[k]? =some y->c.is.getD y.toNat false=c.is[i]:=fun y h=>by
    rw[hx] at h;cases h;rw[dg,getD_some hy]
   generalize c.is[i]=b at hy hg;refine dz QF ?_;refine aQ ?_;refine bf bg (an rfl (fun hp=>?_) fun hp=>?_)
   .refine ws ?_;refine SS ?_;refine ab (aU (cq (aO (aq (d:=B false) rfl ?_))));have:nN c rs=false:=List.all_eq_false.2 ⟨_,cg hx,by rw[hg _ hx];simpa using hp⟩;rw[this]
   .refine cD ?_;refine ap ?_;refine ab (aP (k+1) (ao eH) ⟨oG,fun j y hj hy=>?_⟩ oG);by_cases e:j=k
    .subst e;rw[hg y hy];simpa using hp
    .exact hinv j y oG hy
  .have X:¬ k<rs.length:=by simpa using h
   exact⟨.forget _ _ _ _ fun _=>.inr rfl,fun j y hy=>hinv j y (by have:=(bA.1 hy).1;omega) hy⟩
 .rintro s ⟨hg,M⟩;refine⟨_,hg,aj ?_⟩;refine SS ?_;refine ab (aq (d:=B true) rfl ?_)
  have:nN c rs=true:=br.2 fun x hx=>by
   obtain⟨j,hj⟩:=dh hx;exact M j x hj
  rw[this]
theorem gR{c:Cert}{r:Int}(hl:c.is.length<=100000)(hr:yB c.is.length r):PCall prog 124 [.agg (bQ c),I r] (.agg (bQ (gz c r))):=by
 refine a7 VU (.cons (.agg (pJ c)) (.cons (.s _) .nil)) (.agg (pJ _)) ?_;rw[VV];refine ws ?_;refine af ?_;refine ab (aB (aj ?_));rcases hr with rfl|⟨i,hi,rfl⟩
 .refine af ?_;refine ab (np ?_);refine aB (aj ?_);refine af ?_;refine ab (di (jL (ke rfl rfl oD jx rfl t158 (bn rfl)) ?_));rfl
 .have fE:((i:Int)== -1)=false:=by simp
  refine af ?_;refine ab (oc (cu (dz QG ?_)));have C:(c.is.map B).length=c.is.length:=by simp
  have ou:(c.is.map B).take (c.is.length*1)=c.is.map B:=cL oS;refine aR ?_;refine tN (tt rfl rfl rfl V.h V.h (Hy ou) rfl) ak ⟨V.h,rfl,(by first|omega|exact bn rfl|(simp;done)|(simp;omega)),oC,(by first|rfl|(simp;done)|(simp;omega)),(by unfold maxLen;first|omega|(simp;omega)),(by rw[b4];first|omega|(simp;omega)),(by first|(simp;done)|(simp;omega))⟩ ?_;refine ap ?_;refine bf bg (aj ?_);refine aR ?_;refine ab (au ?_);refine af ?_
  have e:sub (fz0 3 ((c.is.set i true).map B) (prog.cellsOf 4)) (.rs 3 0 (0+c.is.length))=.sl ((c.is.set i true).map B) c.is.length:=by
   rw[c4,Nat.zero_add,vp,List.drop_zero,cL oS]
  refine ab (aJ (bj [(3,(c.is.set i true).map B,4),(1,[B c.any,.sl ((c.is.set i true).map B) c.is.length],158)] ⟨?_,?_,trivial⟩ (l:=[(4,.pt [B c.any,.sl ((c.is.set i true).map B) c.is.length])]) eH) (aU (jL (Iw rfl oD jx rfl t158 (bE _)) ?_)))
  .rw[List.map_set];rfl
  .exact congrArg (fun d=>some (Row.cells [B c.any,d] 158)) e
  unfold gz;rw[if_neg oG,dg];show _=D.agg [B c.any,.sl _ (c.is.set i true).length];rw[List.length_set];rfl
theorem nC{x:bd}:PCall prog 125 [.agg (a8 x)] (I (cN x)):=by
 refine a7 VW (.cons (.agg (mZ x)) .nil) (Tr.s _) ?_;rw[VX];refine au ?_;refine af ?_;refine ab (aJ (bj [(0,a8 x,66)] eH (l:=[(1,.pt (a8 x))]) eH) (aB (aj ?_)));refine af ?_;refine ab (kf ?_)
 have J:cN x=if aE (jG++kV) x.op=true then x.to else -1:=by
  unfold cN;have:aE (jG++kV) x.op=(aE jG x.op||aE kV x.op):=List.any_append;rw[this];cases aE jG x.op<;>cases aE kV x.op<;>rfl
 refine dA (fun s=>Ghost prog s ⟨ax [(1,.pt (a8 x)),(4,U8 x.op),(5,B (aE (jG++kV) x.op))],fun _=>none,1⟩) (aj ?_) fun s hg=>⟨_,hg,?_⟩
 .refine af ?_;refine ab (an rfl (fun h=>aV (ao ⟨rfl,rfl,cr h oC,trivial⟩)) fun e1=>aj ?_);refine af ?_;refine ab (an rfl (fun h=>aV (ao ⟨rfl,rfl,cr h oC,trivial⟩)) fun e2=>aj ?_);refine af ?_;refine ab (an rfl (fun h=>aV (ao ⟨rfl,rfl,cr h oC,trivial⟩)) fun e3=>aj ?_);refine af ?_;refine ab (an rfl (fun h=>aV (ao ⟨rfl,rfl,cr h oC,trivial⟩)) fun e4=>aj ?_);refine af ?_;refine ab (an rfl (fun h=>aV (ao ⟨rfl,rfl,cr h oC,trivial⟩)) fun e5=>aj ?_);refine af ?_;refine ab (an rfl (fun h=>aV (ao ⟨rfl,rfl,cr h oC,trivial⟩)) fun e6=>aj ?_);refine af ?_;refine ab (an rfl (fun h=>aV (ao ⟨rfl,rfl,cr h oC,trivial⟩)) fun e7=>aj ?_);refine af ?_;refine ab (an rfl (fun h=>aV (ao ⟨rfl,rfl,cr h oC,trivial⟩)) fun e8=>aj ?_);refine af ?_;refine ab (an rfl (fun h=>aV (ao ⟨rfl,rfl,cr h oC,trivial⟩)) fun e9=>aj ?_);refine af ?_;refine ab (an rfl (fun h=>aV (ao ⟨rfl,rfl,cr h oC,trivial⟩)) fun M=>aj ?_);refine af ?_;refine ab (an rfl (fun h=>aV (ao ⟨rfl,rfl,cr h oC,trivial⟩)) fun X=>aj ?_);refine af ?_;refine ab (an rfl (fun h=>aV (ao ⟨rfl,rfl,cr h oC,trivial⟩)) fun rE=>aj ?_);refine af ?_;refine ab (an rfl (fun h=>aV (ao ⟨rfl,rfl,cr h oC,trivial⟩)) fun uC=>aj ?_);refine af ?_;refine ab (an rfl (fun h=>aV (ao ⟨rfl,rfl,cr h oC,trivial⟩)) fun zj=>aj ?_);refine af ?_;refine ab (an rfl (fun h=>aV (ao ⟨rfl,rfl,cr h oC,trivial⟩)) fun C=>aj ?_);refine af ?_;refine ab (an rfl (fun h=>aV (ao ⟨rfl,rfl,cr h oC,trivial⟩)) fun rF=>aj ?_);refine af ?_;refine ab (an rfl (fun h=>aV (ao ⟨rfl,rfl,cr h oC,trivial⟩)) fun rG=>aj ?_);refine af ?_;refine ab (an rfl (fun h=>aV (ao ⟨rfl,rfl,cr h oC,trivial⟩)) fun rH=>aj ?_);refine af ?_;refine ab (an rfl (fun h=>aV (ao ⟨rfl,rfl,cr h oC,trivial⟩)) fun rI=>aj ?_);refine af ?_;refine ab (an rfl (fun h=>aV (ao ⟨rfl,rfl,cr h oC,trivial⟩)) fun uD=>aj ?_);refine af ?_;refine ab (an rfl (fun h=>aV (ao ⟨rfl,rfl,cr h oC,trivial⟩)) fun U=>iW ?_);refine af ?_;refine ab (ao ⟨rfl,rfl,?_,trivial⟩);show D.s (.bool (x.op==37))=_;simp only[aE,jG,kV,List.cons_append,List.nil_append,List.any_cons,List.any_nil,e1,e2,e3,e4,e5,e6,e7,e8,e9,M,X,rE,uC,zj,C,rF,rG,rH,rI,uD,U,Bool.false_or,Bool.or_false]
 refine an rfl (fun h1=>aj ?_) fun h1=>jN (aj ?_)
 .refine ap ?_;refine ab (aU (bk (aO (aq rfl ?_))));rw[J,if_pos h1];rfl
 .refine SS ?_;refine ab (aq rfl ?_);rw[J,if_neg (by simp[h1])];rfl
theorem A9{x:Argus.End}:PCall prog 146 [.agg (aW x)] (I (dw x)):=by
 have C:∀ a∈[D.agg (aW x)],Tr a:=.cons (.agg (iQ x)) .nil;have nC:=nC (x:=x.ins);refine a7 VY C (Tr.s _) ?_;rw[VZ];refine au ?_;refine af ?_;refine ab (aJ (bj [(0,aW x,69)] eH (l:=[(1,.pt (aW x))]) eH) (aB (aj ?_)));refine af ?_;refine ab (kf (aj ?_));refine af ?_;refine ab (an rfl (fun h1=>?_) fun h1=>?_)
 .have h1:x.kind=5:=by simpa using h1
  refine ws ?_;refine af ?_;refine cl nC ?_;refine SS ?_;refine ab (aU (bk (aO (aq (d:=I (cN x.ins)) rfl ?_))));simp[dw,h1]
 have h1:¬ x.kind=5:=by simpa using h1
 refine dA (fun s=>Ghost prog s ⟨ax [(1,.pt (aW x)),(4,U8 x.kind),(10,B (aE [6,7] x.kind))],fun _=>none,1⟩) (aj ?_) fun s hg=>⟨_,hg,?_⟩
 .refine af ?_;refine ab (an rfl (fun h=>aV (ao ⟨rfl,rfl,cr h oC,trivial⟩)) fun e6=>iW ?_);refine af ?_;refine ab ?_;refine ao ⟨rfl,rfl,?_,trivial⟩;show D.s (.bool (x.kind==7))=_;simp[aE,e6]
 refine an rfl (fun h2=>?_) fun h2=>?_
 .refine ws ?_;refine ap ?_;refine ab (aU (bk (aO (aq (d:=I x.a) rfl ?_))));simp[dw,h1,h2]
 refine ws ?_;refine af ?_;refine ab (an rfl (fun h3=>?_) fun h3=>?_)
 .have h3:x.kind=8:=by simpa using h3
  refine ws ?_;refine ap ?_;refine ab (aU (bk (aO (aq (d:=I x.b) rfl ?_))));simp[dw,h2,h3];simp[aE]
 have h3:¬ x.kind=8:=by simpa using h3
 refine jN (aj ?_);refine SS ?_;refine ab (aq (d:=I (-1)) rfl ?_);simp[dw,h1,h2,h3]
theorem sv{x:bd}(hx:x.op=10\/x.op=38->x.args.length<=1000):PCall prog 123 [.agg (a8 x)] (aC (bW x)):=by
 have U:∀ a∈[D.agg (a8 x)],Tr a:=.cons (.agg (mZ x)) .nil;refine a7 V0 U (cW _) ?_;rw[V1];refine au ?_;refine af ?_;refine ab (aJ (bj [(0,a8 x,66)] eH (l:=[(1,.pt (a8 x))]) eH) (aB (aj ?_)));refine af ?_;refine ab (kf ?_);refine dA (fun s=>Ghost prog s ⟨ax [(1,.pt (a8 x)),(4,U8 x.op),(5,B (aE kZ x.op))],fun _=>none,1⟩) (aj ?_) fun s hg=>⟨_,hg,?_⟩
 .refine af ?_;refine ab (an rfl (fun h=>aV (ao ⟨rfl,rfl,cr h oC,trivial⟩)) fun e2=>aj ?_);refine af ?_;refine ab (an rfl (fun h=>aV (ao ⟨rfl,rfl,cr h oC,trivial⟩)) fun e8=>aj ?_);refine af ?_;refine ab (an rfl (fun h=>aV (ao ⟨rfl,rfl,cr h oC,trivial⟩)) fun X=>aj ?_);refine af ?_;refine ab (an rfl (fun h=>aV (ao ⟨rfl,rfl,cr h oC,trivial⟩)) fun rE=>aj ?_);refine af ?_;refine ab (an rfl (fun h=>aV (ao ⟨rfl,rfl,cr h oC,trivial⟩)) fun uC=>aj ?_);refine af ?_;refine ab (an rfl (fun h=>aV (ao ⟨rfl,rfl,cr h oC,trivial⟩)) fun zk=>aj ?_);refine af ?_;refine ab (an rfl (fun h=>aV (ao ⟨rfl,rfl,cr h oC,trivial⟩)) fun zl=>aj ?_);refine af ?_;refine ab (an rfl (fun h=>aV (ao ⟨rfl,rfl,cr h oC,trivial⟩)) fun C=>iW ?_);refine af ?_;refine ab ?_;refine ao ⟨rfl,rfl,?_,trivial⟩;show D.s (.bool (x.op==36))=_;simp[aE,kZ,e2,e8,X,rE,uC,zk,zl,C]
 refine an rfl (fun h1=>?_) fun h1=>?_
 .refine au ?_;refine aN ?_;refine ab (aJ (bj [(1,([x.a]).map I,3)] eH (l:=[(2,aC ([x.a]))]) ⟨iA c3 rfl,trivial⟩) (aU (bk (aO (aq (d:=aC ([x.a])) rfl ?_)))));exact congrArg aC (by unfold bW;rw[if_pos h1])
 refine dA (fun s=>Ghost prog s ⟨ax [(1,.pt (a8 x)),(4,U8 x.op),(18,B (aE nU x.op))],fun _=>none,1⟩) (aj ?_) fun s hg=>⟨_,hg,?_⟩
 .refine af ?_;refine ab (an rfl (fun h=>aV (ao ⟨rfl,rfl,cr h oC,trivial⟩)) fun e3=>aj ?_);refine af ?_;refine ab (an rfl (fun h=>aV (ao ⟨rfl,rfl,cr h oC,trivial⟩)) fun e4=>aj ?_);refine af ?_;refine ab (an rfl (fun h=>aV (ao ⟨rfl,rfl,cr h oC,trivial⟩)) fun e5=>aj ?_);refine af ?_;refine ab (an rfl (fun h=>aV (ao ⟨rfl,rfl,cr h oC,trivial⟩)) fun e6=>aj ?_);refine af ?_;refine ab (an rfl (fun h=>aV (ao ⟨rfl,rfl,cr h oC,trivial⟩)) fun e7=>aj ?_);refine af ?_;refine ab (an rfl (fun h=>aV (ao ⟨rfl,rfl,cr h oC,trivial⟩)) fun J=>aj ?_);refine af ?_;refine ab (an rfl (fun h=>aV (ao ⟨rfl,rfl,cr h oC,trivial⟩)) fun rF=>aj ?_);refine af ?_;refine ab (an rfl (fun h=>aV (ao ⟨rfl,rfl,cr h oC,trivial⟩)) fun rG=>aj ?_);refine af ?_;refine ab (an rfl (fun h=>aV (ao ⟨rfl,rfl,cr h oC,trivial⟩)) fun rH=>aj ?_);refine af ?_;refine ab (an rfl (fun h=>aV (ao ⟨rfl,rfl,cr h oC,trivial⟩)) fun rI=>aj ?_);refine af ?_;refine ab (an rfl (fun h=>aV (ao ⟨rfl,rfl,cr h oC,trivial⟩)) fun uD=>aj ?_);refine af ?_;refine ab (an rfl (fun h=>aV (ao ⟨rfl,rfl,cr h oC,trivial⟩)) fun M=>iW ?_);refine af ?_;refine ab ?_;refine ao ⟨rfl,rfl,?_,trivial⟩;show D.s (.bool (x.op==37))=_;simp[aE,nU,e3,e4,e5,e6,e7,J,rF,rG,rH,rI,uD,M]
 refine an rfl (fun h2=>?_) fun h2=>?_
 .refine au ?_;refine bF ?_;refine ab (aJ (bj [(1,([x.a,x.b]).map I,3)] eH (l:=[(2,aC ([x.a,x.b]))]) ⟨iA c3 rfl,trivial⟩) (aU (bk (aO (aq (d:=aC ([x.a,x.b])) rfl ?_)))));exact congrArg aC (by unfold bW;rw[if_neg (by simp[h1]),if_pos h2])
 refine ws ?_;refine af ?_;refine ab (an rfl (fun h3=>?_) fun h3=>?_)
 .have h3:x.op=10:=by simpa using h3
  have hl:=hx (.inl h3);have ou:(x.args.map I).take (x.args.length*1)=x.args.map I:=cL oS;refine au ?_;refine aR ?_;refine ab (aJ (bj [(2,x.args.map I,3)] eH (l:=[(2,aC x.args)]) ⟨?_,trivial⟩) (aU (bk (aO (aq (d:=aC x.args) rfl ?_)))))
  .show oO _ [(2,_,3)] (.rs 2 0 (0+x.args.length))=_;refine(iA c3 (es:=x.args.map I) (cL oS)).trans ?_;rw[Nat.zero_add]
  exact congrArg aC (by unfold bW;rw[if_neg (by simp[h1]),if_neg (by simp[h2]),if_pos h3])
 have h3:¬ x.op=10:=by simpa using h3
 refine ws ?_;refine af ?_;refine ab (an rfl (fun h4=>?_) fun h4=>?_)
 .have h4:x.op=38:=by simpa using h4
  have hl:=hx (.inr h4);have ou:(x.args.map I).take (x.args.length*1)=x.args.map I:=cL oS;refine au ?_;refine aQ ?_;refine ab (aJ (bj [(2,(x.a::x.b::x.args).map I,3)] eH (l:=[(2,aC (x.a::x.b::x.args))]) ⟨?_,trivial⟩) (aU (bk (aO (aq (d:=aC (x.a::x.b::x.args)) rfl ?_)))))
  .show oO _ [(2,_,3)] (.rs 2 0 (2+x.args.length))=_;refine(iA c3 (es:=(x.a::x.b::x.args).map I) (cL oP)).trans ?_;rw[Nat.add_comm];rfl
  .exact congrArg aC (by unfold bW;rw[if_neg (by simp[h1]),if_neg (by simp[h2]),if_neg h3,if_pos h4])
 have h4:¬ x.op=38:=by simpa using h4
 refine jN (au ?_);refine SS ?_;refine ab (aJ (s7 (n0:=2) rfl) (aq (d:=aC []) rfl ?_));exact congrArg aC (by unfold bW;rw[if_neg (by simp[h1]),if_neg (by simp[h2]),if_neg h3,if_neg h4])
theorem A'{x:Argus.End}(hx:x.kind=5->x.ins.op=10\/x.ins.op=38->x.ins.args.length<=1000)(hy:x.kind=6\/x.kind=7->x.args.length<=1000):PCall prog 128 [.agg (aW x)] (aC (bU x)):=by
 have C:∀ a∈[D.agg (aW x)],Tr a:=.cons (.agg (iQ x)) .nil;refine a7 V2 C (cW _) ?_;rw[V3];refine au ?_;refine af ?_;refine ab (aJ (bj [(0,aW x,69)] eH (l:=[(1,.pt (aW x))]) eH) (aB (aj ?_)));refine af ?_;refine ab (kf ?_);refine dA (fun s=>Ghost prog s ⟨ax [(1,.pt (aW x)),(4,U8 x.kind),(5,B (aE [2,8,9] x.kind))],fun _=>none,1⟩) (aj ?_) fun s hg=>⟨_,hg,?_⟩
 .refine af ?_;refine ab (an rfl (fun h=>aV (ao ⟨rfl,rfl,cr h oC,trivial⟩)) fun e2=>aj ?_);refine af ?_;refine ab (an rfl (fun h=>aV (ao ⟨rfl,rfl,cr h oC,trivial⟩)) fun e8=>iW ?_);refine af ?_;refine ab ?_;refine ao ⟨rfl,rfl,?_,trivial⟩;show D.s (.bool (x.kind==9))=_;simp[aE,e2,e8]
 refine an rfl (fun h1=>?_) fun h1=>?_
 .refine au ?_;refine aN ?_;refine ab (aJ (bj [(1,([x.a]).map I,3)] eH (l:=[(2,aC ([x.a]))]) ⟨iA c3 rfl,trivial⟩) (aU (bk (aO (aq (d:=aC ([x.a])) rfl ?_)))));exact congrArg aC (by unfold bU;rw[if_pos h1])
 refine ws ?_;refine af ?_;refine ab (an rfl (fun h2=>?_) fun h2=>?_)
 .have h2:x.kind=3:=by simpa using h2
  refine aB (aj ?_);refine ap ?_;refine ab (cy rfl (fun h3=>?_) fun h3=>cu (au ?_))
  .have h3:x.a= -1:=by simpa using h3
   refine aB (au ?_);refine SS ?_;refine ab (aJ (s7 (n0:=2) rfl) (di (bk (aO (aq (d:=aC []) rfl ?_)))));exact congrArg aC (by unfold bU;rw[if_neg (by simp[h1]),if_pos h2,if_neg (by simp[h3])])
  .have h3:¬ x.a= -1:=by simpa using h3
   refine aN ?_;refine ab (aJ (bj [(1,([x.a]).map I,3)] eH (l:=[(2,aC ([x.a]))]) ⟨iA c3 rfl,trivial⟩) (aU (bk (aO (aq (d:=aC ([x.a])) rfl ?_)))));exact congrArg aC (by unfold bU;rw[if_neg (by simp[h1]),if_pos h2,if_pos h3])
 have h2:¬ x.kind=3:=by simpa using h2
 refine ws ?_;refine af ?_;refine ab (an rfl (fun h3=>?_) fun h3=>?_)
 .have h3:x.kind=5:=by simpa using h3
  have sv:=sv (x:=x.ins) (hx h3);refine ws ?_;refine af ?_;refine cl sv ?_;refine SS ?_;refine ab (aU (bk (aO (aq (d:=aC (bW x.ins)) rfl ?_))));exact congrArg aC (by unfold bU;rw[if_neg (by simp[h1]),if_neg h2,if_pos h3])
 have h3:¬ x.kind=5:=by simpa using h3
 refine dA (fun s=>Ghost prog s ⟨ax [(1,.pt (aW x)),(4,U8 x.kind),(25,B (aE [6,7] x.kind))],fun _=>none,1⟩) (aj ?_) fun s hg=>⟨_,hg,?_⟩
 .refine af ?_;refine ab (an rfl (fun h=>aV (ao ⟨rfl,rfl,cr h oC,trivial⟩)) fun e6=>iW ?_);refine af ?_;refine ab ?_;refine ao ⟨rfl,rfl,?_,trivial⟩;show D.s (.bool (x.kind==7))=_;simp[aE,e6]
 refine an rfl (fun h4=>?_) fun h4=>?_
 .have h5:x.kind=6\/x.kind=7:=by simpa[aE] using h4
  have hl:=hy h5;have ou:(x.args.map I).take (x.args.length*1)=x.args.map I:=cL oS;refine au ?_;refine aR ?_;refine ab (aJ (bj [(2,x.args.map I,3)] eH (l:=[(2,aC x.args)]) ⟨?_,trivial⟩) (aU (bk (aO (aq (d:=aC x.args) rfl ?_)))))
  .show oO _ [(2,_,3)] (.rs 2 0 (0+x.args.length))=_;refine(iA c3 (es:=x.args.map I) (cL oS)).trans ?_;rw[Nat.zero_add]
  exact congrArg aC (by unfold bU;rw[if_neg (by simp[h1]),if_neg h2,if_neg h3,if_pos h4])
 refine jN (au ?_);refine SS ?_;refine ab (aJ (s7 (n0:=2) rfl) (aq (d:=aC []) rfl ?_));exact congrArg aC (by unfold bU;rw[if_neg (by simp[h1]),if_neg h2,if_neg h3,if_neg (by simp[h4])])
end Go.Proofs.Tryz.K
end
namespace Go.Argus
open Go Go.Abs
open Go.Proofs.Tryz.K (nextR)
structure Bb(R n:Nat)(x:bd):Prop where
 r:∀ r∈bW x,∃ i:Nat,i<R/\r=i
 s:x.op=17->∃ i:Nat,R+i<n/\x.n=i
 p:x.op=19->∀ r∈x.args,∃ i:Nat,i<R/\r=i
theorem iO{l:List Int}{r:Int}(h:gh l r):∃ i:Nat,i<l.length/\r=i:=⟨r.toNat,by unfold gh at h;omega,by unfold gh at h;omega⟩
theorem Jk{f:aA}{b X:Int}{x:bd}(hs:∀ k∈f.aK,k≠0)(h:dd f b X x=true):tW f.ag.length (f.ag.length+f.aK.length) x/\Bb f.ag.length (f.ag.length+f.aK.length) x/\(x.op=19->(x.args.length:Int)=X):=by
 have k1:∀ {r:Int},aY f r 119=true->∃ i:Nat,i<f.ag.length/\r=i:=fun {r} h=>iO (iw fun e=>by rw[pU,e] at h;simp[aG] at h);have M:∀ {r:Int},aY f r 114=true->∃ i:Nat,i<f.ag.length/\r=i:=fun {r} h=>iO (iw fun e=>by rw[tI,e] at h;simp[aG] at h);have k3:∀ {r:Int},aY f r 105=true->∃ i:Nat,i<f.ag.length/\r=i:=fun {r} h=>iO (iw fun e=>by rw[yd,e] at h;simp[aG] at h);have k4:∀ {r:Int},aY f r 118=true->∃ i:Nat,i<f.ag.length/\r=i:=fun {r} h=>iO (kU h)
 have U:∀ {a b:Int},g9 f a b=true->(∃ i:Nat,i<f.ag.length/\a=i)/\∃ i:Nat,i<f.ag.length/\b=i:=fun {a b} h=>by
  simp only[g9,aM] at h;exact⟨iO (kU h.1),iO (kU h.2.1)⟩
 have k6:∀ {l:List Int},eT f.ag l=true->∀ r∈l,∃ i:Nat,i<f.ag.length/\r=i:=fun {l} h r hr=>iO (s6 h r hr)
 have k7:∀ {r n:Int},jn f.ag f.aK r n=true->(∃ i:Nat,i<f.ag.length/\r=i)/\∃ i:Nat,f.ag.length+i<f.ag.length+f.aK.length/\n=i:=fun {r n} h=>by
  obtain⟨h1,h2,h3⟩:=Dj hs h;exact⟨iO h1,n.toNat,oG,oG⟩
 obtain⟨op,to,a,C,n,args⟩:=x;unfold dd at h;dsimp only at h
 have fin:∀ {W:Prop} {Rs:List Int},(cN ⟨op,to,a,C,n,args⟩= -1\/∃ i:Nat,i<f.ag.length/\cN ⟨op,to,a,C,n,args⟩=i)->bW ⟨op,to,a,C,n,args⟩=Rs->(∀ r∈Rs,∃ i:Nat,i<f.ag.length/\r=i)->
  op≠17->op≠18->op≠19->tW f.ag.length (f.ag.length+f.aK.length) ⟨op,to,a,C,n,args⟩/\Bb f.ag.length (f.ag.length+f.aK.length) ⟨op,to,a,C,n,args⟩/\(op=19->(args.length:Int)=X):=fun {W Rs} h1 h2 h3 e1 e2 e3=>
  ⟨⟨h1,fun e=>absurd e e2⟩,⟨by rw[h2];exact h3,fun e=>absurd e e1,fun e=>absurd e e3⟩,fun e=>absurd e e3⟩
 by_cases h1:op=1
 .subst h1;simp[aM] at h;exact fin (W:=True) (Rs:=[]) (.inr (k1 h.2.1)) rfl oS oC oC oC
 by_cases h2:op=2
 .subst h2;simp[aM] at h;exact fin (W:=True) (Rs:=[a]) (.inr (U h.2).1) rfl (by simpa using(U h.2).2) oC oC oC
 by_cases h3:op=3\/op=4\/op=6\/op=7
 .have J:aY f to 119=true/\aY f a 119=true/\aY f C 119=true:=by
   rcases h3 with rfl|rfl|rfl|rfl<;>(simp[aE,aM] at h;exact h.2)
  have hr:∀ r∈[a,C],∃ i:Nat,i<f.ag.length/\r=i:=by
   intro r hr;simp at hr;rcases hr with rfl|rfl
   .exact k1 J.2.1
   .exact k1 J.2.2
  rcases h3 with rfl|rfl|rfl|rfl<;>exact fin (W:=True) (Rs:=[a,C]) (.inr (k1 J.1)) rfl hr oC oC oC
 by_cases h5:op=5
 .subst h5;simp[aE,aM] at h;refine fin (W:=True) (Rs:=[a,C]) (.inr (k1 h.2.1)) rfl ?_ oC oC oC;intro r hr;simp at hr;rcases hr with rfl|rfl
  .exact(U h.2.2).1
  .exact(U h.2.2).2
 by_cases h8:op=8
 .subst h8;simp[aE,aM] at h;exact fin (W:=True) (Rs:=[a]) (.inr (k1 h.2.1)) rfl (by simpa using k1 h.2.2) oC oC oC
 by_cases h9:op=9
 .subst h9;simp[aE,aM] at h;exact fin (W:=True) (Rs:=[]) (.inr (M h.2.1)) rfl oS oC oC oC
 by_cases j7:op=10
 .subst j7;simp[aE,aM] at h;exact fin (W:=True) (Rs:=args) (.inr (M h.2.1)) rfl (k6 h.2.2.2.2) oC oC oC
 by_cases o8:op=11
 .subst o8;simp[aE,aM] at h;exact fin (W:=True) (Rs:=[a]) (.inr (k4 h.2.1)) rfl (by simpa using M h.2.2.1) oC oC oC
 by_cases qm:op=12
 .subst qm;simp[aE,aM] at h;refine fin (W:=True) (Rs:=[a,C]) (.inl rfl) rfl ?_ oC oC oC;intro r hr;simp at hr;rcases hr with rfl|rfl
  .exact M h.2.1
  .exact k4 h.2.2.1
 by_cases rJ:op=13\/op=14
 .have J:aY f to 119=true/\aY f a 114=true:=by
   rcases rJ with rfl|rfl<;>(simp[aE,aM] at h;exact h.2)
  rcases rJ with rfl|rfl<;>exact fin (W:=True) (Rs:=[a]) (.inr (k1 J.1)) rfl (by simpa using M J.2) oC oC oC
 by_cases Ot:op=15
 .subst Ot;simp[aE,aM] at h;exact fin (W:=True) (Rs:=[a]) (.inl rfl) rfl (by simpa using k1 h.2) oC oC oC
 by_cases mM:op=16
 .subst mM;simp[aE,aM] at h;exact fin (W:=True) (Rs:=[a]) (.inl rfl) rfl (by simpa using k3 h.2) oC oC oC
 by_cases fH:op=17
 .subst fH;simp[aE,aM] at h;exact⟨⟨.inr (k7 h.2).1,fun e=>by simp at e⟩,⟨by simp[bW,aE,kZ,nU],fun _=>(k7 h.2).2,fun e=>by simp at e⟩,fun e=>by simp at e⟩
 by_cases dv:op=18
 .subst dv;simp[aE,aM] at h;exact⟨⟨.inl rfl,fun _=>(k7 h.2).2⟩,⟨by simpa[bW,aE,kZ] using(k7 h.2).1,fun e=>by simp at e,fun e=>by simp at e⟩,fun e=>by simp at e⟩
 by_cases dP:op=19
 .subst dP;simp[aE,aM] at h;refine⟨⟨.inr (k4 h.2.2.1),fun e=>by simp at e⟩,⟨by simp[bW,aE,kZ,nU],fun e=>by simp at e,fun _ r hr=>(U (h.2.2.2.2 r hr)).2⟩,fun _=>?_⟩;simpa[aG] using h.2.2.2.1
 .rw[if_neg h1,if_neg h2,if_neg (by simp[aE];omega),if_neg h5,if_neg h8,if_neg h9,if_neg j7,if_neg o8,if_neg qm,if_neg (by simp[aE];omega),if_neg Ot,if_neg mM,if_neg fH,if_neg dv,if_neg dP] at h;cases h
theorem Jl{f:aA}{x:bd}(h:iG f x=true):(cN x= -1\/∃ i:Nat,i<f.ag.length/\cN x=i)/\∀ r∈bW x,∃ i:Nat,i<f.ag.length/\r=i:=by
 have k1:∀ {r:Int},aY f r 119=true->∃ i:Nat,i<f.ag.length/\r=i:=fun {r} h=>iO (iw fun e=>by rw[pU,e] at h;simp[aG] at h);have J:∀ {r:Int},aY f r 114=true->∃ i:Nat,i<f.ag.length/\r=i:=fun {r} h=>iO (iw fun e=>by rw[tI,e] at h;simp[aG] at h);have U:∀ {r:Int},aY f r 118=true->∃ i:Nat,i<f.ag.length/\r=i:=fun {r} h=>iO (kU h);have k6:∀ {l:List Int},eT f.ag l=true->∀ r∈l,∃ i:Nat,i<f.ag.length/\r=i:=fun {l} h r hr=>iO (s6 h r hr);obtain⟨op,to,a,C,n,args⟩:=x;unfold iG at h;dsimp only at h;by_cases h0:op=30\/op=31\/op=32\/op=33\/op=34
 .have M:aY f to 119=true/\aY f a 119=true/\aY f C 119=true:=by
   rcases h0 with rfl|rfl|rfl|rfl|rfl<;>(simp[aE,aM] at h;exact h.2)
  have hr:∀ r∈[a,C],∃ i:Nat,i<f.ag.length/\r=i:=by
   intro r hr;simp at hr;rcases hr with rfl|rfl
   .exact k1 M.2.1
   .exact k1 M.2.2
  rcases h0 with rfl|rfl|rfl|rfl|rfl<;>exact⟨.inr (k1 M.1),hr⟩
 by_cases h5:op=35
 .subst h5;simp[aE,aM] at h;refine⟨.inl rfl,?_⟩;show ∀ r∈[a,C],_;intro r hr;simp at hr;rcases hr with rfl|rfl
  .exact J h.2.1
  .exact U h.2.2
 by_cases X:op=36
 .subst X;simp[aE,aM] at h;refine⟨.inr (U h.2.1),?_⟩;show ∀ r∈[a],_;simpa using J h.2.2
 by_cases h7:op=37
 .subst h7;simp[aE,aM] at h;refine⟨.inr (U h.2.1),?_⟩;show ∀ r∈[a,C],_;intro r hr;simp at hr;rcases hr with rfl|rfl
  .exact J h.2.2.1
  .exact k1 h.2.2.2
 by_cases h8:op=38
 .subst h8;simp[aE,aM] at h;refine⟨.inl rfl,?_⟩;show ∀ r∈a::C::args,_;intro r hr;rcases List.mem_cons.1 hr with rfl|hr
  .exact J h.2.1
  .rcases List.mem_cons.1 hr with rfl|hr
   .exact k1 h.2.2.1
   .exact k6 h.2.2.2.2 r hr
 .exfalso;simp[aE,h5,X,h7,h8] at h;omega
theorem Dm{f:aA}{x:End}(h:fc f x=true):(dw x= -1\/∃ i:Nat,i<f.ag.length/\dw x=i)/\(∀ r∈bU x,∃ i:Nat,i<f.ag.length/\r=i)/\(x.kind=7->∃ i:Nat,i<f.ag.length/\x.a=i):=by
 have k1:∀ {r:Int},aY f r 119=true->∃ i:Nat,i<f.ag.length/\r=i:=fun {r} h=>iO (iw fun e=>by rw[pU,e] at h;simp[aG] at h);have k3:∀ {r:Int},aY f r 105=true->∃ i:Nat,i<f.ag.length/\r=i:=fun {r} h=>iO (iw fun e=>by rw[yd,e] at h;simp[aG] at h);have C:∀ {r:Int},aY f r 118=true->∃ i:Nat,i<f.ag.length/\r=i:=fun {r} h=>iO (kU h);have k6:∀ {l:List Int},eT f.ag l=true->∀ r∈l,∃ i:Nat,i<f.ag.length/\r=i:=fun {l} h r hr=>iO (s6 h r hr);obtain⟨kind,a,b,to,eD,name,ins,args,az,b7⟩:=x;unfold fc at h;dsimp only at h;by_cases h1:kind=1
 .subst h1;exact⟨.inl rfl,by simp[bU,aE],fun e=>by simp at e⟩
 by_cases h2:kind=2
 .subst h2;simp[aM] at h;refine⟨.inl rfl,?_,fun e=>by simp at e⟩;show ∀ r∈[a],_;simpa using k1 h.2.1
 by_cases h3:kind=3
 .subst h3;rw[if_neg oC,if_neg oC,if_pos rfl] at h;refine⟨.inl rfl,?_,fun e=>by simp at e⟩;intro r hr;simp[bU,aE] at hr;obtain⟨e,rfl⟩:=hr;by_cases hc:f.iter=true\/f.result=0
  .rw[if_pos hc,aM,ko] at h;exact absurd h.2 e
  .rw[if_neg hc,aM,aM] at h;exact C h.2.1
 by_cases h4:kind=4
 .subst h4;exact⟨.inl rfl,by simp[bU,aE],fun e=>by simp at e⟩
 by_cases h5:kind=5
 .subst h5;simp[aM] at h;exact⟨(Jl h.2.1).1,(Jl h.2.1).2,fun e=>by simp at e⟩
 by_cases J:kind=6
 .subst J;simp[aM] at h;refine⟨?_,k6 h.2.2.2.1,fun e=>by simp at e⟩;show a= -1\/∃ i:Nat,_/\a=_;rcases h.2.2.2.2.1 with e|e
  .exact .inl (by simpa[aG] using e)
  .exact .inr (C e)
 by_cases M:kind=7
 .subst M;simp[aM] at h;exact⟨.inr (k3 h.2.2.2.2.1),k6 h.2.2.2.1,fun _=>k3 h.2.2.2.2.1⟩
 by_cases U:kind=8
 .subst U;simp[aM] at h;refine⟨.inr (C h.2.2.1),?_,fun e=>by simp at e⟩;show ∀ r∈[a],_;simpa using k3 h.2.1
 by_cases X:kind=9
 .subst X;simp[aM] at h;refine⟨.inl rfl,?_,fun e=>by simp at e⟩;show ∀ r∈[a],_;simpa using C h.2.2.1
 .simp[h1,h2,h3,h4,h5,J,M,U,X] at h
end Go.Argus
section
open Go Go.Abs Go.Proofs Go.Argus
namespace Go.Argus
open Go.Proofs.Tryz.K (nextR)
theorem H9{f:aA}{x:End}(h:gI f x=true):l0 x=nextR x:=by
 refine Ji (wJ .nil).1 (Ho x) fun t=>?_;rw[Hf,zK h,nextR,zv]
theorem Hi{f:aA}{bs:List bu}(h:∀ b∈bs,gI f b.fin=true)(k:Nat):iY bs k=bh bs k:=by
 induction k with
 |zero=>rfl
 |succ k ih=>
  unfold iY bh at ih ⊢;rw[List.range_succ,List.foldl_append,List.foldl_append,ih];show wX bs _ k=lV bs _ k;unfold wX lV;cases hx:bs[k]? with
  |none=>rfl
  |some x=>dsimp only;rw[H9 (h x (cg hx))]
end Go.Argus
end
namespace Go.Argus
open Go Go.Abs
open Go.Proofs.Tryz.K (nextR)
def nr(f:aA):Bool:=kp f&&(m7 f&&kq f)
def Ac(f:aA):Bool:=f.blocks.all fun x=>(cX x.fin).all (bI f)
def qH(f:aA)(b:Nat)(l:List bd)(j:Nat):Bool:=dd f b (iY f.blocks f.blocks.length b).length (l.getD j dc)&& !(bG (l.getD j dc)&&(decide (0<j)&& !bG (l.getD (j - 1) dc)))
def nD(f:aA)(b:Nat):Bool:=
 let x:=f.blocks.getD b gM
 !decide ((200:Int)<x.ins.length)&&((List.range x.ins.length).all (qH f b x.ins)&&(fc f x.fin&& !(x.fin.kind==7&&(iR f.blocks b).any (·==x.fin.a))))
def qv(f:aA):Bool:=nr f&&(Ac f&&(List.range f.blocks.length).all (nD f))
theorem zz(f:aA)(b:Int)(x:bd)(p:Bool)(C:Int):gq f b x p C=(gq f b x true C&&(!bG x||p)):=by
 unfold gq bG;by_cases X:x.op=16
 .simp[X]
 .by_cases U:x.op=17
  .simp[U]
  .by_cases M:x.op=18
   .simp[M]
   .by_cases J:x.op=19
    .simp[J,Bool.and_comm]
    .simp[X,U,M,J]
theorem Sb(l:List bd):(∀ j,j<l.length->bG (l.getD j dc)=true->0<j->bG (l.getD (j - 1) dc)=true)↔∀ j,j<l.length->bG (l.getD j dc)=true->(l.take (j+1)).all bG=true:=by
 have hg:∀ {j},j<l.length->∀ y,l[j]? =some y->l.getD j dc=y:=fun _ y hy=>getD_some hy;constructor
 .intro h j
  induction j with
  |zero=>
   intro hj hp;have hx:l[0]? =some l[0]:=aL hj;rw[getD_some hx] at hp;rw[List.take_add_one,hx];simpa using hp
  |succ j ih=>
   intro hj hp;have hx:l[j+1]? =some l[j+1]:=aL hj;have h1:=h (j+1) hj hp oG;have h2:=ih oG (by simpa using h1);rw[List.take_add_one,List.all_append,h2,hx];rw[getD_some hx] at hp;simpa using hp
 .intro h j hj hp h0;have h1:=h j hj hp;have hx:l[j - 1]? =some l[j - 1]:=aL oG;rw[getD_some hx];refine br.1 h1 _ ?_;refine cg (i:=j - 1) ?_;rw[List.getElem?_take,if_pos oG,hx]
theorem S7{n:Nat}{p q:Nat->Bool}:(List.range n).all (fun j=>p j&&q j)=((List.range n).all p&&(List.range n).all q):=by
 rw[Bool.eq_iff_iff];simp only[br,aM,List.mem_range];exact⟨fun h=>⟨fun j hj=>(h j hj).1,fun j hj=>(h j hj).2⟩,fun h j hj=>⟨h.1 j hj,h.2 j hj⟩⟩
theorem GO{f:aA}:qv f=iu f:=by
 have hH:iu f=(nr f&&((List.range f.blocks.length).all (gH f)&&(List.range f.blocks.length).all (nS f))):=by
  unfold iu nr;simp only[Bool.and_assoc]
 rw[hH];unfold qv;cases X:nr f with
 |false=>rfl
 |true=>
  rw[Bool.true_and,Bool.true_and,Bool.eq_iff_iff,aM,aM,br,br,br];unfold nr at X;simp only[aM] at X;obtain⟨h1,h2,_⟩:=X
  have jX:mW f=true:=by
   unfold kp at h1;simp only[aM] at h1;exact h1.2.2.1
  have iF:f.ag.length<=1200:=by
   unfold kp at h1;simp only[aM,Bool.not_eq_true',decide_eq_false_iff_not] at h1;omega
  have eg:∀ k∈f.aK,k=1\/k=2:=fun k hk=>by
   unfold m7 at h2;simp only[aM] at h2;have h3:=h2.2.2.1;simp only[dK,Bool.not_eq_true',List.any_eq_false] at h3;have:=h3 k hk;simp[jF] at this;omega
  have me:∀ {k:Nat},k<f.blocks.length->∃ x,f.blocks[k]? =some x/\f.blocks.getD k gM=x/\x∈f.blocks:=fun {k} hk=>by
   have hx:f.blocks[k]? =some f.blocks[k]:=aL hk;exact⟨_,hx,getD_some hx,bR _⟩
  have ot:(∀ b∈f.blocks,gI f b.fin=true)->∀ k,k<f.blocks.length->(nD f k=true↔gH f k=true/\nS f k=true):=fun he k hk=>by
   obtain⟨x,hx,hg,hm⟩:=me hk;have U:=Hi he f.blocks.length;unfold nD gH nS qH qp;simp only[hg,Dn jX,he x hm,U,Bool.true_and,aM,br,List.mem_range];have h3:∀ j,dd f k (bh f.blocks f.blocks.length k).length (x.ins.getD j dc)=gq f k (x.ins.getD j dc) true (bh f.blocks f.blocks.length k).length:=fun j=>Jj eg;have Nb:=Sb x.ins;simp only[h3];constructor
   .rintro⟨J,C,M⟩;refine⟨⟨J,M⟩,fun j hj=>?_⟩;rw[zz,aM];refine⟨(C j hj).1,?_⟩;have:=Nb.1 (fun j hj hp h0=>by have:=(C j hj).2;rw[hp] at this;simpa[h0] using this) j hj;cases hp:bG (x.ins.getD j dc) with
    |false=>rfl
    |true=>rw[this hp];rfl
   .rintro⟨⟨J,M⟩,C⟩;refine⟨J,fun j hj=>?_,M⟩
    have h4:∀ j,j<x.ins.length->bG (x.ins.getD j dc)=true->(x.ins.take (j+1)).all bG=true:=fun j hj hp=>by
     have:=C j hj;rw[zz,aM,hp] at this;simpa using this.2
    have h5:=C j hj;rw[zz,aM] at h5;refine⟨h5.1,?_⟩;have h6:=Nb.2 h4 j hj;cases hp:bG (x.ins.getD j dc) with
    |false=>rfl
    |true=>
     by_cases h0:0<j
     .rw[h6 hp h0];simp
     .simp[h0]
  constructor
  .rintro⟨h3,h4⟩
   have he:∀ b∈f.blocks,gI f b.fin=true:=fun b hb=>by
    obtain⟨k,hk⟩:=dh hb;have:=h4 k (by simpa using(bA.1 hk).1);unfold nD at this;simp only[getD_some hk,aM,Dn jX] at this;exact this.2.2.1
   exact⟨fun k hk=>((ot he k (by simpa using hk)).1 (h4 k hk)).1,fun k hk=>((ot he k (by simpa using hk)).1 (h4 k hk)).2⟩
  .rintro⟨h3,h4⟩
   have he:∀ b∈f.blocks,gI f b.fin=true:=fun b hb=>by
    obtain⟨k,hk⟩:=dh hb;have:=h3 k (by simpa using(bA.1 hk).1);unfold gH at this;simp only[getD_some hk,aM] at this;exact this.1
   refine⟨br.2 fun x hx=>br.2 fun t ht=>?_,fun k hk=>(ot he k (by simpa using hk)).2 ⟨h3 k hk,h4 k hk⟩⟩;rw[zK (he x hx)] at ht;have:=(CK iF jX (he x hx)).to t ht;rw[bI,ir];omega
def opsV(R:Nat)(c:Cert)(x:bd):Bool:=(x.op !=17||c.is.getD ((R:Int)+x.n).toNat false)&&nN c (bW x)
def l9(f:aA)(s:CS)(b:Nat)(x:bd)(k:Nat):Bool:=
 let p:=((bh f.blocks f.blocks.length b).getD k 0).toNat
 let c:=bO f.ag.length (f.ag.length+f.aK.length) s p
 c.any||(jV (f.blocks.getD p gM).fin b (dN f.ag.length (f.blocks.getD p gM).ins c)).is.getD (x.args.getD k 0).toNat false
def vO(f:aA)(s:CS)(b:Nat)(x:bd):Bool:= !bG x||(List.range x.args.length).all (l9 f s b x)
def tX(f:aA)(s:CS)(b:Nat)(l:List bd)(c:Cert)(j:Nat):Bool:=opsV f.ag.length (dN f.ag.length (l.take j) c) (l.getD j dc)&&vO f s b (l.getD j dc)
def l8(f:aA)(s:CS)(b:Nat):Bool:=
 let c:=bO f.ag.length (f.ag.length+f.aK.length) s b
 let l:=(f.blocks.getD b gM).ins
 c.any||((List.range l.length).all (tX f s b l c)&&nN (dN f.ag.length l c) (bU (f.blocks.getD b gM).fin))
def DC(f:aA):Int:=if qv f=true then(if(List.range f.blocks.length).all (l8 f (fK f.blocks f.args.toNat))=true then 0 else 81) else 80
theorem DE{R n:Nat}(J:R<=n){w:List Int}(C:eu w):∀ {rs:List Int} {ok:Bool},(∀ r∈rs,∃ i:Nat,i<R/\r=i)->gn w ok rs=(ok&&nN ⟨false,bM R n w⟩ rs)
 |[],ok,_=>by simp[gn,nN]
 |r::rs,ok,h=>by
  obtain⟨i,hi,e⟩:=h r oS;have ih:=DE J C (rs:=rs) (ok:=ok&&jw w r.toNat) fun r hr=>h r (by simp[hr])
  have h1:(bM R n w).getD r.toNat false=jw w r.toNat:=by
   rw[e,dg,getD_some (pE oG),CT C.all];unfold eM;rw[if_pos hi]
  unfold gn nN at ih ⊢;rw[List.foldl_cons,ih,List.all_cons,h1,Bool.and_assoc]
theorem Jm{R n:Nat}(hR:R<=1200)(hn:n<=R+60)(C:R<=n):∀ {l:List bd} (_:∀ x∈l,tW R n x/\Bb R n x) {w:List Int} {ok:Bool} (_:eu w) (_:js R n w),
 (l.foldl kC (w,ok)).2=(ok&&(List.range l.length).all fun j=>opsV R (dN R (l.take j) ⟨false,bM R n w⟩) (l.getD j dc))
 |[],_,w,ok,_,_=>by simp
 |x::l,h,w,ok,hw,ho=>by
  obtain⟨U,J⟩:=h x oS;obtain⟨h1,h2,h3⟩:=H7 hR hn C U hw ho;have ih:=Jm hR hn C (l:=l) (ok:=(kC (w,ok) x).2) (fun y hy=>h y (by simp[hy])) h2 h3;rw[List.foldl_cons];show(l.foldl kC (rX w x,(kC (w,ok) x).2)).2=_;rw[ih,List.length_cons,List.range_succ_eq_map,List.all_cons,List.all_map]
  have h0:(kC (w,ok) x).2=(ok&&opsV R ⟨false,bM R n w⟩ x):=by
   show(gn w ok (bW x)&&_)=_;rw[DE C hw J.r,Bool.and_assoc];congr 1;unfold opsV;rw[Bool.and_comm];congr 1;by_cases M:x.op=17
   .obtain⟨i,hi,e⟩:=J.s M;have e1:((R:Int)+x.n).toNat=R+i:=by omega
    have e2:(ik x.n).toNat=eM R (R+i):=by unfold ik eM;rw[if_neg oG];omega
    rw[e1,e2,getD_some (pE oG),CT hw.all]
   .have:(x.op !=17)=true:=by simpa using M
    rw[this];rfl
  rw[h0,Bool.and_assoc];congr 2;refine List.all_congr rfl fun j=>?_;show _=opsV R (dN R ((x::l).take (j+1)) _) ((x::l).getD (j+1) dc);unfold dN;rw[List.take_succ_cons,List.foldl_cons,h1];rfl
theorem Sc{l:List bd}{P:bd->Bool}(h:∀ j,j<l.length->bG (l.getD j dc)=true->(l.take (j+1)).all bG=true):(List.range l.length).all (fun j=> !bG (l.getD j dc)||P (l.getD j dc))=(l.takeWhile bG).all P:=by
 rw[Bool.eq_iff_iff,br,br];constructor
 .intro ha y hy;have C:y∈l:=List.takeWhile_sublist _ |>.subset hy;have hp:bG y=true:=br.1 List.all_takeWhile y hy;obtain⟨j,hj⟩:=dh C;have:=ha j (by simpa using(bA.1 hj).1);rw[getD_some hj,hp] at this;simpa using this
 .intro ha j hj;have al:j<l.length:=by simpa using hj
  have hx:l[j]? =some l[j]:=aL al;have h1:=h j al;rw[getD_some hx] at h1 ⊢;cases hp:bG l[j] with
  |false=>rfl
  |true=>
   have h2:=br.1 (h1 hp)
   have J:l.takeWhile bG=l.take (j+1)++(l.drop (j+1)).takeWhile bG:=by
    conv=>lhs;rw[<- List.take_append_drop (j+1) l]
    exact List.takeWhile_append_of_pos h2
   have:P l[j]=true:=ha _ (by
    rw[J,List.mem_append];left
    exact cg (i:=j) (by rw[List.getElem?_take,if_pos oG,hx]))
   rw[this];rfl
structure sa(f:aA):Prop where
 ok:pI f
 sl:f.aK.length<=60
 ins:∀ b∈f.blocks,∀ x∈b.ins,tW f.ag.length (f.ag.length+f.aK.length) x/\Bb f.ag.length (f.ag.length+f.aK.length) x
 BD:∀ (k:Nat) b,f.blocks[k]? =some b->∀ (j:Nat) x,b.ins[j]? =some x->bG x=true->x.args.length=(bh f.blocks f.blocks.length k).length/\(b.ins.take (j+1)).all bG=true
 wr:∀ b∈f.blocks,dw b.fin= -1\/∃ i:Nat,i<f.ag.length/\dw b.fin=i
 rd:∀ b∈f.blocks,∀ r∈bU b.fin,∃ i:Nat,i<f.ag.length/\r=i
 ed:∀ b∈f.blocks,cX b.fin=cx b.fin/\l0 b.fin=nextR b.fin
 ar:∃ a:Nat,f.args=a/\a<=f.ag.length
theorem AF{f:aA}(h:iu f=true):sa f:=by
 have C:=Al h;have hd:=h;unfold iu at hd;simp only[aM] at hd;obtain⟨h1,h2,_,h4,_⟩:=hd
 have X:mW f=true:=by
  unfold kp at h1;simp only[aM] at h1;exact h1.2.2.1
 have y8:∃ a:Nat,f.args=a/\a<=f.ag.length:=by
  unfold kp at h1;simp only[aM,ir] at h1;have:=h1.2.1;refine⟨f.args.toNat,oG,?_⟩;have:=this.2;split at this<;>omega
 have U:∀ k∈f.aK,k=1\/k=2:=fun k hk=>by
  unfold m7 at h2;simp only[aM] at h2;have h3:=h2.2.2.1;simp only[dK,Bool.not_eq_true',List.any_eq_false] at h3;have:=h3 k hk;simp[jF] at this;omega
 have he:∀ b∈f.blocks,gI f b.fin=true:=fun b hb=>by
  obtain⟨k,hk⟩:=dh hb;have:=br.1 h4 k (by simpa using(bA.1 hk).1);unfold gH at this;simp only[getD_some hk,aM] at this;exact this.1
 have J:∀ (k:Nat) b,f.blocks[k]? =some b->∀ (j:Nat) x,b.ins[j]? =some x->dd f k (bh f.blocks f.blocks.length k).length x=true/\(bG x=true->(b.ins.take (j+1)).all bG=true):=fun k b hb j x hx=>by
  have:=C.right k b hb j x hx;rw[zz,aM] at this;refine⟨by rw[Jj U];exact this.1,fun hp=>?_⟩;have h3:=this.2;rw[hp] at h3;simpa using h3
 have M:∀ b∈f.blocks,fc f b.fin=true:=fun b hb=>by rw[Dn X];exact he b hb
 refine⟨C,C.aK.2,fun b hb x hx=>?_,fun k b hb j x hx hp=>?_,fun b hb=>(Dm (M b hb)).1,fun b hb=>(Dm (M b hb)).2.1,fun b hb=>⟨zK (he b hb),H9 (he b hb)⟩,y8⟩
 .obtain⟨k,hk⟩:=dh hb;obtain⟨j,hj⟩:=dh hx;have:=Jk C.aK.1 (J k b hk j x hj).1;exact⟨this.1,this.2.1⟩
 .have:=Jk C.aK.1 (J k b hb j x hx).1;have h3:=this.2.2 (by simpa[bG] using hp);exact⟨oG,(J k b hb j x hx).2 hp⟩
theorem QW{f:aA}(h:sa f):l7 f.ag.length (f.ag.length+f.aK.length) f.blocks.length (fK f.blocks f.args.toNat):=by
 obtain⟨a,ha,oQ⟩:=h.ar;have hR:=h.ok.ag;have hS:=h.sl;have hi:=Hh (R:=f.ag.length) (n:=f.ag.length+f.aK.length) (args:=a) hR oG oG h.ok.pos oQ;rw[ha,dg];unfold fK;refine(H4 (J:=l7 f.ag.length (f.ag.length+f.aK.length) f.blocks.length) h.ok.blk (fun s M hj=>R7 (J:=l7 f.ag.length (f.ag.length+f.aK.length) f.blocks.length) h.ok.blk (fun s h=>IA h false) (fun s k M hj=>?_) M hj) _ _ hi.1.ok hi.1 (Nat.lt_succ_self _)).2.2;refine S0 (J:=l7 f.ag.length (f.ag.length+f.aK.length) f.blocks.length) h.ok.blk M hj fun x hx hr u hu X t ht=>?_;have hk:k<f.blocks.length:=(bA.1 hx).1;have C:=cg hx;have U:=(h.ok.blk x C).to t ht;obtain⟨t,rfl⟩:=eC U.1;obtain⟨_,p2,p3⟩:=wQ hR oG oG (ok:=true) (fun y hy=>(h.ins x C y hy).1) (M.jA hk) (hj.yes k hk hr);exact(IB hR oG oG X (h.ed x C).1 (h.wr x C) oG p2 p3).1
theorem H'{f:aA}(h:sa f){b:Nat}(hb:b<f.blocks.length):l8 f (fK f.blocks f.args.toNat) b=nR f.blocks (fK f.blocks f.args.toNat) b:=by
 have M:=QW h;have hR:=h.ok.ag;have hS:=h.sl;generalize fK f.blocks f.args.toNat=s at M ⊢;have hx:f.blocks[b]? =some f.blocks[b]:=aL hb;have J:f.blocks[b]∈f.blocks:=bR _;unfold l8 nR;simp only[getD_some hx];have tQ:=h.BD b _ hx;generalize f.blocks[b]=x at hx J tQ;cases lJ:s.re.getD b false with
 |false=>
  have:bO f.ag.length (f.ag.length+f.aK.length) s b=⟨true,List.replicate (f.ag.length+f.aK.length) false⟩:=by unfold bO;rw[lJ];rfl
  rw[this];rfl
 |true=>
  have hc:bO f.ag.length (f.ag.length+f.aK.length) s b=⟨false,bM f.ag.length (f.ag.length+f.aK.length) (s.ws.getD b [])⟩:=by unfold bO;rw[lJ];rfl
  have hw:=M.ok.jA hb;have ho:=M.yes b hb lJ;rw[hc];generalize s.ws.getD b []=w at hw ho;have h1:=Jm hR oG oG (h.ins x J) (ok:=true) hw ho;obtain⟨h2,h3,h4⟩:=wQ hR oG oG (ok:=true) (fun y hy=>(h.ins x J y hy).1) hw ho;have h5:=DE (R:=f.ag.length) (n:=f.ag.length+f.aK.length) oG h3 (ok:=(x.ins.foldl kC (w,true)).2) (h.rd x J)
  have h6:∀ j,j<x.ins.length->bG (x.ins.getD j dc)=true->(x.ins.take (j+1)).all bG=true:=fun j hj hp=>by
   have hy:x.ins[j]? =some x.ins[j]:=aL hj;rw[getD_some hy] at hp;exact(tQ j _ hy hp).2
  have h7:=Sc (l:=x.ins) (P:=fun y=>(List.range y.args.length).all (l9 f s b y)) h6
  have h8:(x.ins.takeWhile bG).all (fun y=>(List.range y.args.length).all (l9 f s b y))=(x.ins.takeWhile bG).all (qF f.blocks s b):=by
   rw[Bool.eq_iff_iff,br,br]
   have mF:∀ y∈x.ins.takeWhile bG,(List.range y.args.length).all (l9 f s b y)=qF f.blocks s b y:=fun y hy=>by
    have BS:y∈x.ins:=List.takeWhile_sublist _ |>.subset hy;have hp:bG y=true:=br.1 List.all_takeWhile y hy;obtain⟨j,hj⟩:=dh BS;have hlen:=(tQ j y hj hp).1;unfold qF;rw[hlen,Bool.eq_iff_iff,br,br]
    have:∀ k∈List.range (bh f.blocks f.blocks.length b).length,l9 f s b y k=pz f.blocks s b y k:=fun k hk=>by
     have hk:k<(bh f.blocks f.blocks.length b).length:=by simpa using hk
     have hpk:(bh f.blocks f.blocks.length b)[k]? =some (bh f.blocks f.blocks.length b)[k]:=aL hk;unfold l9 pz;simp only[getD_some hpk]
     have U:(bh f.blocks f.blocks.length b)[k].toNat<f.blocks.length:=by
      have Ze:=(Ce (fun b hb t ht=>((h.ok.blk b hb).to t ht).1) f.blocks.length b).2 _ (bR hk);have:=h.ok.pos;omega
     generalize (bh f.blocks f.blocks.length b)[k].toNat=p at U;have qj:f.blocks[p]? =some f.blocks[p]:=aL U;have X:f.blocks[p]∈f.blocks:=bR _;rw[getD_some qj];generalize f.blocks[p]=z at qj X;have hak:y.args[k]? =some y.args[k]:=aL oG;have sS:=(h.ins x J y BS).2.p (by simpa[bG] using hp) _ (bR (h:=by omega):y.args[k]∈y.args);rw[getD_some hak];obtain⟨i,hi,e⟩:=sS;rw[e,dg];cases ui:s.re.getD p false with
     |false=>
      have:bO f.ag.length (f.ag.length+f.aK.length) s p=⟨true,List.replicate (f.ag.length+f.aK.length) false⟩:=by unfold bO;rw[ui];rfl
      rw[this];rfl
     |true=>
      have uE:bO f.ag.length (f.ag.length+f.aK.length) s p=⟨false,bM f.ag.length (f.ag.length+f.aK.length) (s.ws.getD p [])⟩:=by unfold bO;rw[ui];rfl
      obtain⟨q2,q3,q4⟩:=wQ hR oG oG (ok:=true) (fun y hy=>(h.ins z X y hy).1) (M.ok.jA U) (M.yes p U ui);obtain⟨r2,r3,r4⟩:=H8 hR oG oG (h.ed z X).1 (h.wr z X) (to:=(b:Int)) q3 q4;rw[uE,q2,r2,getD_some (pE (show i<f.ag.length+f.aK.length by omega))];have jz:eM f.ag.length i=i:=by unfold eM;rw[if_pos hi]
      rw[jz];show(false||dD _ i)=(!true||jw _ i)
      rw[<- CT r3.all];rfl
    exact⟨fun h k hk=>by rw[<- this k hk];exact h k hk,fun h k hk=>by rw[this k hk];exact h k hk⟩
   exact⟨fun h y hy=>by rw[<- mF y hy];exact h y hy,fun h y hy=>by rw[mF y hy];exact h y hy⟩
  have h9:(List.range x.ins.length).all (tX f s b x.ins ⟨false,bM f.ag.length (f.ag.length+f.aK.length) w⟩)=((List.range x.ins.length).all (fun j=>opsV f.ag.length (dN f.ag.length (x.ins.take j) ⟨false,bM f.ag.length (f.ag.length+f.aK.length) w⟩) (x.ins.getD j dc))&&(List.range x.ins.length).all fun j=> !bG (x.ins.getD j dc)||(List.range (x.ins.getD j dc).args.length).all (l9 f s b (x.ins.getD j dc))):=by
   rw[<- S7];rfl
  have j7:(gm x w).2=gn (x.ins.foldl kC (w,true)).1 (x.ins.foldl kC (w,true)).2 (bU x.fin):=rfl;rw[h9,h7,h8,h2,j7,h5,h1];simp only[Bool.true_and,Bool.false_or,Bool.not_true];generalize (List.range x.ins.length).all _=A;generalize (x.ins.takeWhile bG).all _=B;generalize nN _ _=C;cases A<;>cases B<;>cases C<;>rfl
theorem QO(f:aA):DC f=dV f:=by
 unfold DC dV;rw[GO];split
 .rename_i h;have hf:=AF h
  have:(List.range f.blocks.length).all (l8 f (fK f.blocks f.args.toNat))=rP f.blocks f.args.toNat:=by
   unfold rP;rw[Bool.eq_iff_iff,br,br];exact⟨fun h k hk=>by rw[<- H' hf (by simpa using hk)];exact h k hk,fun h k hk=>by rw[H' hf (by simpa using hk)];exact h k hk⟩
  rw[this]
 .rfl
end Go.Argus
namespace Go.Argus
open Go.Abs
structure sb(f:aA):Prop where
 NL:0<=f.result
 nm:f.name.size<=maxLen
 sg:∀ s∈f.signals,s.size<=maxLen
 en:∀ b∈f.blocks,b.fin.name.size<=maxLen/\∀ w∈b.fin.az,w.name.size<=maxLen
theorem TW(x:tx.val)(h:tx.ok x):sb (Kt x):=by
 obtain⟨h1,_,_,h4,_,_,J,M,_⟩:=h;refine⟨?_,h1,fun s U=>?_,fun b hb=>?_⟩
 .have:(Lit.int .u8 x.2.2.2.1).wf=true:=h4;simp only[Lit.wf,aM] at this;exact of_decide_eq_true this.1
 .exact J s U
 .obtain⟨y,hy,rfl⟩:=List.mem_map.1 hb;obtain⟨_,C,_⟩:=M y hy;obtain⟨_,_,_,_,_,e6,_,_,e9,_,_⟩:=C;refine⟨e6,fun w X=>?_⟩;obtain⟨z,hz,rfl⟩:=List.mem_map.1 X;exact(e9 z hz).1
end Go.Argus
section
open Go Go.Abs Go.Proofs Go.Argus
namespace Go.Argus
def se(f:aA):Bool:=iX f.name&&(!decide ((1200:Int)<f.ag.length)&&(!decide ((60:Int)<f.aK.length)&&(ct f.args 0 (if(f.ag.length:Int)<6 then(f.ag.length:Int) else 6)&&(!decide (2<f.result)&&(!(f.iter&&decide (f.result=0))&&(!decide ((6:Int)<f.signals.length)&&ct f.blocks.length 1 1200))))))
def pK(a:Int)(j:Nat)(x:Int):Bool:=jF 3 x||(decide ((j:Int)<a)&&decide (x=3))
theorem OZ{f:aA}(h:se f=false):nr f=false:=by
 unfold se at h;unfold nr kp m7 mW;revert h;generalize iX f.name=a;generalize ct f.args 0 _=b;generalize ct f.blocks.length 1 1200=c;generalize kq f=d;generalize dK f.ag 3=e;generalize dK (f.ag.take f.args.toNat) 2=g;generalize dK f.aK 2=i;generalize f.signals.any _=j;grind
theorem Pr{f:aA}(h:se f=true)(hr:0<=f.result):kp f=true/\f.signals.length<=6/\f.ag.length<=1200/\f.aK.length<=60/\0<=f.args/\f.args<=f.ag.length:=by
 unfold se at h;simp only[aM,Bool.not_eq_true',decide_eq_false_iff_not,ir] at h;obtain⟨h1,h2,h3,h4,h5,C,M,J⟩:=h;have ha:f.args<=f.ag.length:=by have:=h4.2;split at this<;>omega
 refine⟨?_,oG,oG,oG,h4.1,ha⟩;unfold kp mW;simp only[aM,Bool.not_eq_true',decide_eq_false_iff_not,ir];refine⟨h1,h4,?_,h2,h3,J⟩;have:f.result=0\/f.result=1\/f.result=2:=by omega
 rcases this with e|e|e
 .simp[e] at C ⊢;exact C
 .simp[e]
 .simp[e]
theorem fj(a b:Bool):(if a=true then b else false)=(a&&b):=by cases a<;>rfl
theorem tw(a b:Bool):(if a=true then true else b)=(a||b):=by cases a<;>rfl
def lQ(bs:List bu):List (List Int):=(List.range bs.length).map (iY bs bs.length)
def jr(R:Nat)(bs:List bu)(k:Nat):List Bool:=(List.range R).map fun(i:Nat)=>(iR bs k).any (·==(i:Int))
theorem wK(R:Nat)(bs:List bu)(k:Nat):(jr R bs k).length=R:=by simp[jr]
theorem z1{R i:Nat}{bs:List bu}{k:Nat}(h:i<R):(jr R bs k)[i]? =some ((iR bs k).any (·==(i:Int))):=by simp[jr,h]
theorem GN{bs:List bu}{k:Nat}{x:bu}(h:bs[k]? =some x):iR bs (k+1)=iR bs k++if x.fin.kind=7 then [x.fin.a] else []:=by
 unfold iR;rw[List.take_add_one,h,List.filter_append,List.map_append];congr 1;by_cases e:x.fin.kind=7<;>simp[e]
theorem SQ{R:Nat}{bs:List bu}{k:Nat}{x:bu}(h:bs[k]? =some x)(e:¬ x.fin.kind=7):jr R bs (k+1)=jr R bs k:=by
 unfold jr;rw[GN h,if_neg e,List.append_nil]
theorem RU{R i:Nat}{bs:List bu}{k:Nat}{x:bu}(h:bs[k]? =some x)(e:x.fin.kind=7)(ha:x.fin.a=i):jr R bs (k+1)=(jr R bs k).set i true:=by
 apply List.ext_getElem?;intro j;rw[List.getElem?_set];by_cases hj:j<R
 .rw[z1 hj,z1 hj,GN h,if_pos e,List.any_append,ha,wK];by_cases C:i=j
  .subst C;simp[hj]
  .rw[if_neg C];have:((i:Int)==(j:Int))=false:=by simp;omega
   simp[this]
 .have h1:∀ k,(jr R bs k)[j]? =none:=fun k=>List.getElem?_eq_none (by rw[wK];omega);rw[h1,h1,wK];split
  .rw[if_neg oG]
  .rfl
theorem QJ(R:Nat)(bs:List bu):jr R bs 0=List.replicate R false:=by
 apply List.ext_getElem?;intro j;by_cases hj:j<R
 .rw[z1 hj];simp[iR,hj]
 .rw[List.getElem?_eq_none (by rw[wK];omega),List.getElem?_eq_none oP]
theorem take_set{C:List Bool}{k n:Nat}{v:Bool}(h:C[k]? =some v)(hn:C.length=n):((C.take k++List.replicate (n - k) false).set k v)=C.take (k+1)++List.replicate (n - (k+1)) false:=by
 have hk:=(bA.1 h).1;have hl:(C.take k).length=k:=by simp;omega
 rw[show n - k=n - (k+1)+1 by omega,List.replicate_succ,List.set_append_right _ _ oG,hl,Nat.sub_self,List.set_cons_zero,List.take_add_one,h];simp
end Go.Argus
namespace Go.Proofs.Tryz.K
set_option maxRecDepth 10000
set_option maxHeartbeats 1000000 in
theorem vJ{f:aA}(J:sb f):PCall prog 169 [.agg (ay f)] (B (nr f)):=by
 have tT:=tT J.nm;have eY:∀ {n a b:Int},PCall prog 212 [I n,I a,I b] (B (ct n a b)):=fun {n a b}=>eY;refine a7 V4 (.cons (.agg (fq f)) .nil) (Tr.s _) ?_;rw[V5];refine au ?_;refine af ?_;refine ab (aJ (bj [(0,ay f,26)] eH (l:=[(1,.pt (ay f))]) eH) (aB (aj ?_)));refine af ?_;refine cl tT ?_;refine aQ ?_;refine bH ?_;refine af ?_;refine bl rfl rfl (KB rfl rfl) (fun hc=>⟨ak,rfl⟩) ?_;refine gc eY ?_;refine aQ ?_;refine aQ ?_;refine bH ?_;refine gc eY ?_;refine af ?_;refine ab (cy rfl (fun h=>?_) fun h=>cu (aB (au ?_)))
 .refine aB (aj ?_);refine SS ?_;refine ab (di (aq (d:=B false) rfl ?_))
  have:se f=false:=by
   revert h;unfold se;generalize iX f.name=a;generalize ct f.args 0 _=b;generalize ct f.blocks.length 1 1200=c;generalize f.iter=d;grind
  rw[OZ this]
 have hA:se f=true:=by
  revert h;unfold se;generalize iX f.name=a;generalize ct f.args 0 _=b;generalize ct f.blocks.length 1 1200=c;generalize f.iter=d;grind
 obtain⟨h1,h6,hR,hS,C,haR⟩:=Pr hA J.NL;clear h hA;obtain⟨a,ha⟩:=eC C
 have hV:nr f=(dK f.ag 3&&(dK (f.ag.take a) 2&&(dK f.aK 2&&((!f.signals.any fun s=> !isName s)&&kq f)))):=by
  rw[nr,h1,m7,ha,dg,show decide ((6:Int)<f.signals.length)=false from decide_eq_false oG];simp only[Bool.true_and,Bool.not_false,Bool.and_assoc]
 rw[hV];clear hV h1
 have LN:∀ (j:Nat) x,f.ag[j]? =some x->pK a j x=true->(dK f.ag 3&&(dK (f.ag.take a) 2&&(dK f.aK 2&&((!f.signals.any fun s=> !isName s)&&kq f))))=false:=fun j x hx hb=>by
  unfold pK at hb;rw[Bool.or_eq_true] at hb;rcases hb with hb|hb
  .have:dK f.ag 3=false:=by
    unfold dK;rw[List.any_eq_true.2 ⟨x,cg hx,hb⟩];rfl
   rw[this];rfl
  .have hb:j<a/\x=3:=by simpa using hb
   have:dK (f.ag.take a) 2=false:=by
    unfold dK;rw[List.any_eq_true.2 ⟨x,cg (i:=j) (by rw[List.getElem?_take,if_pos hb.1,hx]),by rw[hb.2];rfl⟩];rfl
   rw[this,Bool.false_and,Bool.and_false]
 have X:(∀ (j:Nat) x,f.ag[j]? =some x->pK a j x=false)->dK f.ag 3=true/\dK (f.ag.take a) 2=true:=fun h=>by
  constructor
  .unfold dK;rw[Bool.not_eq_true',List.any_eq_false];intro x hx;obtain⟨j,hj⟩:=dh hx;have:=h j x hj;unfold pK at this;rw[Bool.or_eq_false_iff] at this;rw[this.1];simp
  .unfold dK;rw[Bool.not_eq_true',List.any_eq_false];intro x hx;obtain⟨j,hj⟩:=dh hx;have ql:j<a:=by have:=(bA.1 hj).1;simp at this;omega
   rw[List.getElem?_take,if_pos ql] at hj;have:=h j x hj;unfold pK jF at this;simp[ql] at this;simp[jF];omega
 refine SS ?_
 refine ab (bZ (fun s=>Ghost prog s ⟨ax [(1,.pt (ay f))],fun _=>none,1⟩/\dK f.ag 3=true/\dK (f.ag.take a) 2=true) (cP (α:=Nat) (fun k=>⟨ax [(1,.pt (ay f)),(3,I k)],fun _=>none,1⟩)
  (fun k=>k<=f.ag.length/\∀ j x,j<k->f.ag[j]? =some x->pK a j x=false) (fun k=>f.ag.length - k) 0 (ao eH) ⟨oG,fun j y hj=>by omega⟩ ?_) ?_)
 .rintro k ⟨hk,hinv⟩;refine aR ?_;refine ab ⟨_,rfl,fun h=>?_,fun h=>?_⟩
  .have al:k<f.ag.length:=by simpa using h
   have hx:f.ag[k]? =some f.ag[k]:=aL al;have mj:=LN k _ hx
   have lD:pK a k f.ag[k]=false->∀ j y,j<k+1->f.ag[j]? =some y->pK a j y=false:=fun h j y hj hy=>by
    by_cases e:j=k
    .subst e;rw[hx] at hy;cases hy;exact h
    .exact hinv j y oG hy
   generalize f.ag[k]=x at hx mj lD;refine ws ?_;refine aQ ?_;refine aQ ?_;refine bH ?_;refine af ?_;refine ab (an rfl (fun hp=>?_) fun hp=>?_)
   .refine ws ?_;refine SS ?_;refine ab (aU (cq (aO (aq (d:=B false) rfl ?_))));rw[mj (by revert hp;unfold pK jF;rw[ha];grind)]
   .refine cD ?_;refine ap ?_;refine ab (aP (k+1) (ao eH) ⟨oG,lD (by revert hp;unfold pK jF;rw[ha];grind)⟩ oG)
  .have a9:¬ k<f.ag.length:=by simpa using h
   exact⟨ao eH,X fun j x hx=>hinv j x (by have:=(bA.1 hx).1;omega) hx⟩
 rintro s ⟨hg,e1,e2⟩;clear LN X;rw[e1,e2,Bool.true_and,Bool.true_and];refine⟨_,hg,aB (au ?_)⟩;refine SS ?_
 refine ab (bZ (fun s=>Ghost prog s ⟨ax [(1,.pt (ay f))],fun _=>none,1⟩/\dK f.aK 2=true) (cP (α:=Nat) (fun k=>⟨ax [(1,.pt (ay f)),(4,I k)],fun _=>none,1⟩)
  (fun k=>k<=f.aK.length/\∀ (j:Nat) x,j<k->f.aK[j]? =some x->jF 2 x=false) (fun k=>f.aK.length - k) 0 (ao eH) ⟨oG,fun j y hj=>by omega⟩ ?_) ?_)
 .rintro k ⟨hk,hinv⟩;refine aR ?_;refine ab ⟨_,rfl,fun h=>?_,fun h=>?_⟩
  .have al:k<f.aK.length:=by simpa using h
   have hx:f.aK[k]? =some f.aK[k]:=aL al;generalize f.aK[k]=x at hx;refine ws ?_;refine aQ ?_;refine aR ?_;refine ab (an rfl (fun hp=>?_) fun hp=>?_)
   .refine ws ?_;refine SS ?_;refine ab (aU (cq (aO (aq (d:=B false) rfl ?_))))
    have:dK f.aK 2=false:=by
     unfold dK;rw[List.any_eq_true.2 ⟨x,cg hx,by revert hp;unfold jF;grind⟩];rfl
    rw[this];rfl
   .refine cD ?_;refine ap ?_;refine ab (aP (k+1) (ao eH) ⟨oG,fun j y hj hy=>?_⟩ oG);by_cases e:j=k
    .subst e;rw[hx] at hy;cases hy;revert hp;unfold jF;grind
    .exact hinv j y oG hy
  .have a9:¬ k<f.aK.length:=by simpa using h
   refine⟨ao eH,?_⟩;unfold dK;rw[Bool.not_eq_true',List.any_eq_false];intro x hx;obtain⟨j,hj⟩:=dh hx;rw[hinv j x (by have:=(bA.1 hj).1;omega) hj];simp
 rintro s ⟨hg,e3⟩;rw[e3,Bool.true_and];clear e1 e2 e3;have MM:∀ b:Bool,b=(!(f.signals.any fun s=> !isName s)&&kq f)->b=((!f.signals.any fun s=> !isName s)&&kq f):=fun b h=>h
 have V6:∀ (j:Nat) x,f.signals[j]? =some x->isName x=false->((!f.signals.any fun s=> !isName s)&&kq f)=false:=fun j x hx hb=>by
  rw[List.any_eq_true.2 ⟨x,cg hx,by rw[hb];rfl⟩];rfl
 have V7:∀ (j:Nat) x y,f.signals[j]? =some x->f.signals[j+1]? =some y->Op.bytesLess x.toList y.toList=false->((!f.signals.any fun s=> !isName s)&&kq f)=false:=fun j x y hx hy hb=>by
  have:kq f=false:=by
   unfold kq;refine kT (k:=j) (by have:=(bA.1 hy).1;omega) ?_;unfold pA;rw[getD_some hx,getD_some hy,hb]
  rw[this,Bool.and_false]
 refine⟨_,hg,aB (au ?_)⟩;refine SS ?_
 refine ab (bZ (fun s=>Ghost prog s ⟨ax [],fun _=>none,1⟩/\((!f.signals.any fun s=> !isName s)&&kq f)=true) (cP (α:=Nat) (fun k=>⟨ax [(1,.pt (ay f)),(5,I k)],fun _=>none,1⟩)
  (fun k=>k<=f.signals.length/\(∀ (j:Nat) x,j<k->f.signals[j]? =some x->isName x=true)/\∀ (j:Nat) x y,j+1<k->f.signals[j]? =some x->f.signals[j+1]? =some y->Op.bytesLess x.toList y.toList=true) (fun k=>f.signals.length - k) 0 (ao eH) ⟨oG,fun j y hj=>by omega,fun j x y hj=>by omega⟩ ?_) ?_)
 .rintro k ⟨hk,hinv,LO⟩;refine aR ?_;refine ab ⟨_,rfl,fun h=>?_,fun h=>?_⟩
  .have al:k<f.signals.length:=by simpa using h
   have hx:f.signals[k]? =some f.signals[k]:=aL al;have kJ:=kJ (J.sg _ (bR al));generalize f.signals[k]=x at hx kJ
   have U:isName x=true->∀ (j:Nat) y,j<k+1->f.signals[j]? =some y->isName y=true:=fun hq j y hj hy=>by
    by_cases e:j=k
    .subst e;rw[hx] at hy;cases hy;exact hq
    .exact hinv j y oG hy
   have ww:=V6 k x hx;generalize isName x=nb at kJ U ww;refine dz Ps ?_;cases nb with
   |false=>
    refine aR ?_;refine cl kJ ?_;refine aQ ?_;(iterate 2 refine z fun _ _=>?_);refine aR ?_;(iterate 2 refine z fun _ _=>?_);refine SS ?_;refine bf bg (an rfl (fun hp=>?_) fun hp=>(by cases hp));refine ws ?_;refine SS ?_;refine ab (aU (cq (aO (aq (d:=B false) rfl ?_))));rw[ww rfl]
   |true=>
    cases k with
    |zero=>
     have qM:decide ((0:Int)<((0:Nat):Int))=false:=rfl;refine aR ?_;refine cl kJ ?_;refine aQ ?_;(iterate 2 refine z fun _ _=>?_);refine aR ?_;refine z fun _ _=>?_;refine af ?_;refine bf bg (an rfl (fun hp=>(by cases hp)) fun hp=>cD ?_);refine ap ?_;refine ab (aP 1 (ao eH) ⟨oG,U rfl,fun j x y hj=>by omega⟩ oG)
    |succ i=>
     have qM:decide ((0:Int)<((i+1:Nat):Int))=true:=decide_eq_true oG;have ow:((i+1:Nat):Int) - 1=(i:Int)/\ -9223372036854775808<=(i:Int)/\(i:Int)<=9223372036854775807:=by omega
     have hy:f.signals[i]? =some f.signals[i]:=aL oG;generalize f.signals[i]=y at hy;have cV:=V7 i y x hy hx
     have vT:Op.bytesLess y.toList x.toList=true->∀ (j:Nat) x y,j+1<i+1+1->f.signals[j]? =some x->f.signals[j+1]? =some y->Op.bytesLess x.toList y.toList=true:=fun hq j u v hj M hv=>by
      by_cases e:j=i
      .subst e;rw[hy] at M;cases M;rw[hx] at hv;cases hv;exact hq
      .exact LO j u v oG M hv
     refine aR ?_;refine cl kJ ?_;refine aQ ?_;refine dF ?_;refine bl rfl rfl (Js rfl rfl) (fun hc=>⟨ak,trivial⟩) ?_;refine af ?_;refine bf bg (an rfl (fun hp=>?_) fun hp=>?_)
     .refine ws ?_;refine SS ?_;refine ab (aU (cq (aO (aq (d:=B false) rfl ?_))));rw[cV (by revert hp;generalize Op.bytesLess y.toList x.toList=q;cases q<;>simp)]
     .refine cD ?_;refine ap ?_;refine ab (aP (i+1+1) (ao eH) ⟨oG,U rfl,vT (by revert hp;generalize Op.bytesLess y.toList x.toList=q;cases q<;>simp)⟩ oG)
  .have a9:¬ k<f.signals.length:=by simpa using h
   refine⟨.forget _ _ _ _ fun _=>.inr rfl,?_⟩;rw[aM];constructor
   .rw[Bool.not_eq_true',List.any_eq_false];intro x hx;obtain⟨j,hj⟩:=dh hx;rw[hinv j x (by have:=(bA.1 hj).1;omega) hj];simp
   .unfold kq;refine br.2 fun j hj=>?_;have hj:j<f.signals.length - 1:=by simpa using hj
    have h1:f.signals[j]? =some f.signals[j]:=aL oG;have h2:f.signals[j+1]? =some f.signals[j+1]:=aL oG;unfold pA;rw[getD_some h1,getD_some h2];exact LO j _ _ oG h1 h2
 rintro s ⟨hg,e4⟩;rw[e4];refine⟨_,hg,aj ?_⟩;refine SS ?_;exact ab (aq rfl rfl)
section
variable{f:aA}{hd:D}(ht:Tr hd)(cS:hd.one=true)
include ht cS
theorem EV{x:bd}:PCall prog 220 [.agg (bq f hd),.agg (a8 x)] (B (iG f x)):=by
 have bm:∀ {r k:Int},PCall prog 215 [.agg (bq f hd),I r,U8 k] (B (aY f r k)):=fun {r k}=>bm ht cS;have p8:∀ {l:List Int},PCall prog 217 [.agg (bq f hd),aC l] (B (eT f.ag l)):=fun {l}=>p8 ht cS;refine a7 V8 (.cons (.agg (qG ht f)) (.cons (.agg (mZ x)) .nil)) (Tr.s _) ?_;rw[V9];refine au ?_;refine ap ?_;refine ab (aJ (bj [(0,bq f hd,208),(1,a8 x,66)] eH (l:=[(2,.pt (bq f hd)),(3,.pt (a8 x))]) eH) (aB (aj ?_)));refine af ?_;refine ab (kf ?_);refine dA (fun s=>Ghost prog s ⟨ax [(2,.pt (bq f hd)),(3,.pt (a8 x)),(6,U8 x.op),(7,B (aE [30,31,32,33,34] x.op))],fun _=>none,2⟩) (aj ?_) fun s hg=>⟨_,hg,?_⟩
 .refine af ?_;refine ab (an rfl (fun h=>aV (ao ⟨rfl,rfl,rfl,cr h oC,trivial⟩)) fun C=>aj ?_);refine af ?_;refine ab (an rfl (fun h=>aV (ao ⟨rfl,rfl,rfl,cr h oC,trivial⟩)) fun J=>aj ?_);refine af ?_;refine ab (an rfl (fun h=>aV (ao ⟨rfl,rfl,rfl,cr h oC,trivial⟩)) fun M=>aj ?_);refine af ?_;refine ab (an rfl (fun h=>aV (ao ⟨rfl,rfl,rfl,cr h oC,trivial⟩)) fun U=>iW ?_);refine af ?_;refine ab (ao ⟨rfl,rfl,rfl,?_,trivial⟩);show D.s (.bool (x.op==34))=_;simp only[aE,List.any_cons,List.any_nil,C,J,M,U,Bool.false_or,Bool.or_false]
 refine an rfl (fun h0=>aj ?_) fun h0=>aj ?_
 .have bJ:PCall prog 214 [.agg (a8 x),S ⟨#[116,97,98]⟩] (B (bp x [116,97,98])):=bJ oC;refine SS ?_;refine cl bJ ?_;refine aN ?_;refine gc bm ?_;refine aR ?_;refine gc bm ?_;refine aR ?_;refine gc bm ?_;refine af ?_;refine ab (aU (bk (aO (aq (d:=.s (.bool _)) rfl ?_))));have e:iG f x=(bp x [116,97,98]&&(aY f x.to 119&&(aY f x.a 119&&aY f x.b 119))):=by rw[iG,if_pos h0]
  rw[e];simp only[fj,Bool.and_assoc,aG]
 refine af ?_;refine ab (an rfl (fun h1=>aj ?_) fun h1=>aj ?_)
 .have bJ:PCall prog 214 [.agg (a8 x),S ⟨#[97,98]⟩] (B (bp x [97,98])):=bJ oC;refine SS ?_;refine cl bJ ?_;refine aN ?_;refine gc bm ?_;refine aR ?_;refine gc bm ?_;refine af ?_;refine ab (aU (bk (aO (aq (d:=.s (.bool _)) rfl ?_))));have e:iG f x=(bp x [97,98]&&(aY f x.a 114&&aY f x.b 118)):=by rw[iG,if_neg (by rw[h0];decide),if_pos (by simpa using h1)]
  rw[e];simp only[fj,Bool.and_assoc,aG]
 have h1:¬ x.op=35:=by simpa using h1
 refine af ?_;refine ab (an rfl (fun h2=>aj ?_) fun h2=>aj ?_)
 .have bJ:PCall prog 214 [.agg (a8 x),S ⟨#[116,97]⟩] (B (bp x [116,97])):=bJ oC;refine SS ?_;refine cl bJ ?_;refine aN ?_;refine gc bm ?_;refine aR ?_;refine gc bm ?_;refine af ?_;refine ab (aU (bk (aO (aq (d:=.s (.bool _)) rfl ?_))));have e:iG f x=(bp x [116,97]&&(aY f x.to 118&&aY f x.a 114)):=by rw[iG,if_neg (by rw[h0];decide),if_neg h1,if_pos (by simpa using h2)]
  rw[e];simp only[fj,Bool.and_assoc,aG]
 have h2:¬ x.op=36:=by simpa using h2
 refine af ?_;refine ab (an rfl (fun h3=>aj ?_) fun h3=>aj ?_)
 .have bJ:PCall prog 214 [.agg (a8 x),S ⟨#[116,97,98]⟩] (B (bp x [116,97,98])):=bJ oC;refine SS ?_;refine cl bJ ?_;refine aN ?_;refine gc bm ?_;refine aR ?_;refine gc bm ?_;refine aR ?_;refine gc bm ?_;refine af ?_;refine ab (aU (bk (aO (aq (d:=.s (.bool _)) rfl ?_))));have e:iG f x=(bp x [116,97,98]&&(aY f x.to 118&&(aY f x.a 114&&aY f x.b 119))):=by rw[iG,if_neg (by rw[h0];decide),if_neg h1,if_neg h2,if_pos (by simpa using h3)]
  rw[e];simp only[fj,Bool.and_assoc,aG]
 have h3:¬ x.op=37:=by simpa using h3
 refine af ?_;refine ab (an rfl (fun h4=>aj ?_) fun h4=>jN (aj ?_))
 .have bJ:PCall prog 214 [.agg (a8 x),S ⟨#[97,98,108]⟩] (B (bp x [97,98,108])):=bJ oC;refine SS ?_;refine cl bJ ?_;refine aN ?_;refine gc bm ?_;refine aR ?_;refine gc bm ?_;refine aQ ?_;refine af ?_;refine gc p8 ?_;refine af ?_;refine ab (aU (bk (aO (aq (d:=.s (.bool _)) rfl ?_))));have e:iG f x=(bp x [97,98,108]&&(aY f x.a 114&&(aY f x.b 119&&(aG x.args.length 1&&eT f.ag x.args)))):=by rw[iG,if_neg (by rw[h0];decide),if_neg h1,if_neg h2,if_neg h3,if_pos (by simpa using h4)]
  rw[e];simp only[fj,Bool.and_assoc,aG];rfl
 have h4:¬ x.op=38:=by simpa using h4
 refine SS ?_;refine ab (aq (d:=.s (.bool _)) rfl ?_);rw[iG,if_neg (by rw[h0];decide),if_neg h1,if_neg h2,if_neg h3,if_neg h4]
end
theorem oE{f:aA}{L:List (List Int)}{b:Nat}{A:List Int}{x:bd}(hb:L[b]? =some A)(hl:f.aK.length<=60)(hs:∀ k∈f.aK,k=1\/k=2)(hL:L.length<=100000):
 PCall prog 171 [.agg (bq f (bC L)),.agg (a8 x),I b] (B (dd f b A.length x)):=by
 have ht:=uQ L;have cS:(bC L).one=true:=rfl;have bm:∀ {r k:Int},PCall prog 215 [.agg (bq f (bC L)),I r,U8 k] (B (aY f r k)):=fun {r k}=>bm ht cS;have tU:∀ {a b:Int},PCall prog 216 [.agg (bq f (bC L)),I a,I b] (B (g9 f a b)):=fun {a b}=>tU ht cS;have p8:∀ {l:List Int},PCall prog 217 [.agg (bq f (bC L)),aC l] (B (eT f.ag l)):=fun {l}=>p8 ht cS;have A7:∀ {n r:Int},PCall prog 218 [.agg (bq f (bC L)),I n,I r] (B (jn f.ag f.aK r n)):=fun {n r}=>A7 ht cS hl hs;have eY:∀ {n a b:Int},PCall prog 212 [I n,I a,I b] (B (ct n a b)):=fun {n a b}=>eY;have aT:∀ a∈[D.agg (bq f (bC L)),.agg (a8 x),I b],Tr a:=.cons (.agg (qG ht f)) (.cons (.agg (mZ x)) (.cons (.s _) .nil));refine lK LP.he aT fun fy=>?_;have hlen:x.args.length<=maxLen:=((fy _ (List.mem_cons_of_mem _ (List.mem_cons_self ..))).agg (aC x.args) (by simp[a8])).sl.1;unfold maxLen at hlen;refine a7 LP aT (Tr.s _) ?_;rw[V'];refine au ?_;refine ap ?_;refine ab (aJ (bj [(0,bq f (bC L),208),(1,a8 x,66)] eH (l:=[(2,I b),(3,.pt (bq f (bC L))),(4,.pt (a8 x))]) eH) (aB (aj ?_)));refine af ?_;refine ab (kf ?_);refine ws ?_;refine af ?_;refine ab (an rfl (fun h0=>?_) fun h0=>?_)
 .refine ws ?_;have bJ:PCall prog 214 [.agg (a8 x),S ⟨#[116,110]⟩] (B (bp x [116,110])):=bJ oC;refine SS ?_;refine cl bJ ?_;refine aN ?_;refine gc bm ?_;refine aN ?_;refine gc eY ?_;refine af ?_;refine ab (aU (bk (aO (aq (d:=.s (.bool _)) rfl ?_))));have e:dd f b A.length x=(bp x [116,110]&&(aY f x.to 119&&ct x.n (-1000000000) 1000000000)):=by rw[dd,if_pos (by simpa using h0)]
  rw[e];simp only[fj,Bool.and_assoc,aG]
 have h0:¬ x.op=1:=by simpa using h0
 refine ws ?_;refine af ?_;refine ab (an rfl (fun h1=>?_) fun h1=>?_)
 .refine ws ?_;have bJ:PCall prog 214 [.agg (a8 x),S ⟨#[116,97]⟩] (B (bp x [116,97])):=bJ oC;refine SS ?_;refine cl bJ ?_;refine bF ?_;refine gc tU ?_;refine af ?_;refine ab (aU (bk (aO (aq (d:=.s (.bool _)) rfl ?_))));have e:dd f b A.length x=(bp x [116,97]&&g9 f x.to x.a):=by rw[dd,if_neg h0,if_pos (by simpa using h1)]
  rw[e];simp only[fj,Bool.and_assoc,aG]
 have h1:¬ x.op=2:=by simpa using h1
 refine dA (fun s=>Ghost prog s ⟨ax [(2,I b),(3,.pt (bq f (bC L))),(4,.pt (a8 x)),(9,U8 x.op),(37,B (aE [3,4,6,7] x.op))],fun _=>none,2⟩) (aj ?_) fun s hg=>⟨_,hg,?_⟩
 .refine af ?_;refine ab (an rfl (fun h=>aV (ao ⟨rfl,rfl,rfl,rfl,cr h oC,trivial⟩)) fun e3=>aj ?_);refine af ?_;refine ab (an rfl (fun h=>aV (ao ⟨rfl,rfl,rfl,rfl,cr h oC,trivial⟩)) fun e4=>aj ?_);refine af ?_;refine ab (an rfl (fun h=>aV (ao ⟨rfl,rfl,rfl,rfl,cr h oC,trivial⟩)) fun e6=>iW ?_);refine af ?_;refine ab (ao ⟨rfl,rfl,rfl,rfl,?_,trivial⟩);show D.s (.bool (x.op==7))=_;simp only[aE,List.any_cons,List.any_nil,e3,e4,e6,Bool.false_or,Bool.or_false]
 refine an rfl (fun h2=>aj ?_) fun h2=>?_
 .have bJ:PCall prog 214 [.agg (a8 x),S ⟨#[116,97,98]⟩] (B (bp x [116,97,98])):=bJ oC;refine SS ?_;refine cl bJ ?_;refine aN ?_;refine gc bm ?_;refine aR ?_;refine gc bm ?_;refine aR ?_;refine gc bm ?_;refine af ?_;refine ab (aU (bk (aO (aq (d:=.s (.bool _)) rfl ?_))));have e:dd f b A.length x=(bp x [116,97,98]&&(aY f x.to 119&&(aY f x.a 119&&aY f x.b 119))):=by rw[dd,if_neg h0,if_neg h1,if_pos h2]
  rw[e];simp only[fj,Bool.and_assoc,aG]
 refine ws ?_;refine af ?_;refine ab (an rfl (fun h3=>?_) fun h3=>?_)
 .refine ws ?_;have bJ:PCall prog 214 [.agg (a8 x),S ⟨#[116,97,98]⟩] (B (bp x [116,97,98])):=bJ oC;refine SS ?_;refine cl bJ ?_;refine aN ?_;refine gc bm ?_;refine dF ?_;refine gc tU ?_;refine af ?_;refine ab (aU (bk (aO (aq (d:=.s (.bool _)) rfl ?_))));have e:dd f b A.length x=(bp x [116,97,98]&&(aY f x.to 119&&g9 f x.a x.b)):=by rw[dd,if_neg h0,if_neg h1,if_neg (by rw[h2];decide),if_pos (by simpa using h3)]
  rw[e];simp only[fj,Bool.and_assoc,aG]
 have h3:¬ x.op=5:=by simpa using h3
 refine ws ?_;refine af ?_;refine ab (an rfl (fun h4=>?_) fun h4=>?_)
 .refine ws ?_;have bJ:PCall prog 214 [.agg (a8 x),S ⟨#[116,97]⟩] (B (bp x [116,97])):=bJ oC;refine SS ?_;refine cl bJ ?_;refine aN ?_;refine gc bm ?_;refine aR ?_;refine gc bm ?_;refine af ?_;refine ab (aU (bk (aO (aq (d:=.s (.bool _)) rfl ?_))));have e:dd f b A.length x=(bp x [116,97]&&(aY f x.to 119&&aY f x.a 119)):=by rw[dd,if_neg h0,if_neg h1,if_neg (by rw[h2];decide),if_neg h3,if_pos (by simpa using h4)]
  rw[e];simp only[fj,Bool.and_assoc,aG]
 have h4:¬ x.op=8:=by simpa using h4
 refine ws ?_;refine af ?_;refine ab (an rfl (fun h5=>?_) fun h5=>?_)
 .refine ws ?_;have bJ:PCall prog 214 [.agg (a8 x),S ⟨#[116,110]⟩] (B (bp x [116,110])):=bJ oC;refine SS ?_;refine cl bJ ?_;refine aN ?_;refine gc bm ?_;refine aN ?_;refine gc eY ?_;refine af ?_;refine ab (aU (bk (aO (aq (d:=.s (.bool _)) rfl ?_))));have e:dd f b A.length x=(bp x [116,110]&&(aY f x.to 114&&ct x.n 0 1)):=by rw[dd,if_neg h0,if_neg h1,if_neg (by rw[h2];decide),if_neg h3,if_neg h4,if_pos (by simpa using h5)]
  rw[e];simp only[fj,Bool.and_assoc,aG]
 have h5:¬ x.op=9:=by simpa using h5
 refine ws ?_;refine af ?_;refine ab (an rfl (fun C=>?_) fun C=>?_)
 .refine ws ?_;have bJ:PCall prog 214 [.agg (a8 x),S ⟨#[116,110,108]⟩] (B (bp x [116,110,108])):=bJ oC;refine SS ?_;refine cl bJ ?_;refine aN ?_;refine gc bm ?_;refine aN ?_;refine gc eY ?_;refine aR ?_;refine gc eY ?_;refine aR ?_;refine gc p8 ?_;refine af ?_;refine ab (aU (bk (aO (aq (d:=.s (.bool _)) rfl ?_))));have e:dd f b A.length x=(bp x [116,110,108]&&(aY f x.to 114&&(ct x.n 0 5&&(ct x.args.length 1 6&&eT f.ag x.args)))):=by rw[dd,if_neg h0,if_neg h1,if_neg (by rw[h2];decide),if_neg h3,if_neg h4,if_neg h5,if_pos (by simpa using C)]
  rw[e];simp only[fj,Bool.and_assoc,aG]
 have C:¬ x.op=10:=by simpa using C
 refine ws ?_;refine af ?_;refine ab (an rfl (fun J=>?_) fun J=>?_)
 .refine ws ?_;have bJ:PCall prog 214 [.agg (a8 x),S ⟨#[116,97,110]⟩] (B (bp x [116,97,110])):=bJ oC;refine SS ?_;refine cl bJ ?_;refine aN ?_;refine gc bm ?_;refine aR ?_;refine gc bm ?_;refine aN ?_;refine gc eY ?_;refine af ?_;refine ab (aU (bk (aO (aq (d:=.s (.bool _)) rfl ?_))));have e:dd f b A.length x=(bp x [116,97,110]&&(aY f x.to 118&&(aY f x.a 114&&ct x.n 0 5))):=by rw[dd,if_neg h0,if_neg h1,if_neg (by rw[h2];decide),if_neg h3,if_neg h4,if_neg h5,if_neg C,if_pos (by simpa using J)]
  rw[e];simp only[fj,Bool.and_assoc,aG]
 have J:¬ x.op=11:=by simpa using J
 refine ws ?_;refine af ?_;refine ab (an rfl (fun M=>?_) fun M=>?_)
 .refine ws ?_;have bJ:PCall prog 214 [.agg (a8 x),S ⟨#[97,98,110]⟩] (B (bp x [97,98,110])):=bJ oC;refine SS ?_;refine cl bJ ?_;refine aN ?_;refine gc bm ?_;refine aR ?_;refine gc bm ?_;refine aN ?_;refine gc eY ?_;refine af ?_;refine ab (aU (bk (aO (aq (d:=.s (.bool _)) rfl ?_))));have e:dd f b A.length x=(bp x [97,98,110]&&(aY f x.a 114&&(aY f x.b 118&&ct x.n 0 5))):=by rw[dd,if_neg h0,if_neg h1,if_neg (by rw[h2];decide),if_neg h3,if_neg h4,if_neg h5,if_neg C,if_neg J,if_pos (by simpa using M)]
  rw[e];simp only[fj,Bool.and_assoc,aG]
 have M:¬ x.op=12:=by simpa using M
 refine dA (fun s=>Ghost prog s ⟨ax [(2,I b),(3,.pt (bq f (bC L))),(4,.pt (a8 x)),(9,U8 x.op),(180,B (aE [13,14] x.op))],fun _=>none,2⟩) (aj ?_) fun s hg=>⟨_,hg,?_⟩
 .refine af ?_;refine ab (an rfl (fun h=>aV (ao ⟨rfl,rfl,rfl,rfl,cr h oC,trivial⟩)) fun rE=>iW ?_);refine af ?_;refine ab (ao ⟨rfl,rfl,rfl,rfl,?_,trivial⟩);show D.s (.bool (x.op==14))=_;simp only[aE,List.any_cons,List.any_nil,rE,Bool.false_or,Bool.or_false]
 refine an rfl (fun X=>aj ?_) fun X=>?_
 .have bJ:PCall prog 214 [.agg (a8 x),S ⟨#[116,97]⟩] (B (bp x [116,97])):=bJ oC;refine SS ?_;refine cl bJ ?_;refine aN ?_;refine gc bm ?_;refine aR ?_;refine gc bm ?_;refine af ?_;refine ab (aU (bk (aO (aq (d:=.s (.bool _)) rfl ?_))));have e:dd f b A.length x=(bp x [116,97]&&(aY f x.to 119&&aY f x.a 114)):=by rw[dd,if_neg h0,if_neg h1,if_neg (by rw[h2];decide),if_neg h3,if_neg h4,if_neg h5,if_neg C,if_neg J,if_neg M,if_pos X]
  rw[e];simp only[fj,Bool.and_assoc,aG]
 refine ws ?_;refine af ?_;refine ab (an rfl (fun U=>?_) fun U=>?_)
 .refine ws ?_;have bJ:PCall prog 214 [.agg (a8 x),S ⟨#[97]⟩] (B (bp x [97])):=bJ oC;refine SS ?_;refine cl bJ ?_;refine aN ?_;refine gc bm ?_;refine af ?_;refine ab (aU (bk (aO (aq (d:=.s (.bool _)) rfl ?_))));have e:dd f b A.length x=(bp x [97]&&aY f x.a 119):=by rw[dd,if_neg h0,if_neg h1,if_neg (by rw[h2];decide),if_neg h3,if_neg h4,if_neg h5,if_neg C,if_neg J,if_neg M,if_neg (by rw[X];decide),if_pos (by simpa using U)]
  rw[e];simp only[fj,Bool.and_assoc,aG]
 have U:¬ x.op=15:=by simpa using U
 refine ws ?_;refine af ?_;refine ab (an rfl (fun o8=>?_) fun o8=>?_)
 .refine ws ?_;have bJ:PCall prog 214 [.agg (a8 x),S ⟨#[97]⟩] (B (bp x [97])):=bJ oC;refine SS ?_;refine cl bJ ?_;refine aN ?_;refine gc bm ?_;refine af ?_;refine ab (aU (bk (aO (aq (d:=.s (.bool _)) rfl ?_))));have e:dd f b A.length x=(bp x [97]&&aY f x.a 105):=by rw[dd,if_neg h0,if_neg h1,if_neg (by rw[h2];decide),if_neg h3,if_neg h4,if_neg h5,if_neg C,if_neg J,if_neg M,if_neg (by rw[X];decide),if_neg U,if_pos (by simpa using o8)]
  rw[e];simp only[fj,Bool.and_assoc,aG]
 have o8:¬ x.op=16:=by simpa using o8
 refine ws ?_;refine af ?_;refine ab (an rfl (fun qm=>?_) fun qm=>?_)
 .refine ws ?_;have bJ:PCall prog 214 [.agg (a8 x),S ⟨#[116,110]⟩] (B (bp x [116,110])):=bJ oC;refine SS ?_;refine cl bJ ?_;refine bF ?_;refine gc A7 ?_;refine af ?_;refine ab (aU (bk (aO (aq (d:=.s (.bool _)) rfl ?_))));have e:dd f b A.length x=(bp x [116,110]&&jn f.ag f.aK x.to x.n):=by rw[dd,if_neg h0,if_neg h1,if_neg (by rw[h2];decide),if_neg h3,if_neg h4,if_neg h5,if_neg C,if_neg J,if_neg M,if_neg (by rw[X];decide),if_neg U,if_neg o8,if_pos (by simpa using qm)]
  rw[e];simp only[fj,Bool.and_assoc,aG]
 have qm:¬ x.op=17:=by simpa using qm
 refine ws ?_;refine af ?_;refine ab (an rfl (fun rJ=>?_) fun rJ=>?_)
 .refine ws ?_;have bJ:PCall prog 214 [.agg (a8 x),S ⟨#[97,110]⟩] (B (bp x [97,110])):=bJ oC;refine SS ?_;refine cl bJ ?_;refine bF ?_;refine gc A7 ?_;refine af ?_;refine ab (aU (bk (aO (aq (d:=.s (.bool _)) rfl ?_))));have e:dd f b A.length x=(bp x [97,110]&&jn f.ag f.aK x.a x.n):=by rw[dd,if_neg h0,if_neg h1,if_neg (by rw[h2];decide),if_neg h3,if_neg h4,if_neg h5,if_neg C,if_neg J,if_neg M,if_neg (by rw[X];decide),if_neg U,if_neg o8,if_neg qm,if_pos (by simpa using rJ)]
  rw[e];simp only[fj,Bool.and_assoc,aG]
 have rJ:¬ x.op=18:=by simpa using rJ
 refine ws ?_;refine af ?_;refine ab (an rfl (fun zm=>?_) fun zm=>?_)
 .have bJ:PCall prog 214 [.agg (a8 x),S ⟨#[116,108]⟩] (B (bp x [116,108])):=bJ oC;have hv:dd f b A.length x=(!aG b 0&&(bp x [116,108]&&(aY f x.to 118&&(aG x.args.length A.length&&x.args.all (g9 f x.to))))):=by rw[dd,if_neg h0,if_neg h1,if_neg (by rw[h2];decide),if_neg h3,if_neg h4,if_neg h5,if_neg C,if_neg J,if_neg M,if_neg (by rw[X];decide),if_neg U,if_neg o8,if_neg qm,if_neg rJ,if_pos (by simpa using zm)]
  rw[hv];clear hv;have Eh:=bJ;have Ei:= @bm x.to 118;have Wa:= @tU x.to;generalize bp x [116,108]=lv at Eh ⊢;generalize aY f x.to 118=iv at Ei ⊢;refine aB (dz Pt ?_);have bJ:=Eh;have bm:=Ei;by_cases BH:b=0
  .have fE:((b:Int)==0)=true:=by simp[BH]
   have e0:aG b 0=true:=by simp[aG,BH]
   rw[e0];refine aN ?_;refine gc bJ ?_;refine bF ?_;refine gc bm ?_;refine aQ ?_;refine aR ?_;refine bf bg (cy rfl (fun hp=>?_) fun hp=>(by cases hp));refine aB (aj ?_);refine SS ?_;refine ab (di (bk (aO (aq (d:=B false) rfl ?_))));rfl
  have fE:((b:Int)==0)=false:=by simp[BH]
  have e0:aG b 0=false:=by simp[aG,BH]
  rw[e0];refine aN ?_;refine gc bJ ?_;refine bF ?_;refine gc bm ?_;refine aQ ?_;refine aR ?_;refine bf bg (cy rfl (fun hp=>?_) fun hp=>cu ?_)
  .refine aB (aj ?_);refine SS ?_;refine ab (di (bk (aO (aq (d:=B false) rfl ?_))))
   have:(lv&&(iv&&aG x.args.length A.length))=false:=by
    revert hp;cases lv<;>cases iv<;>simp[aG]
   revert this;generalize x.args.all (g9 f x.to)=q;generalize aG x.args.length A.length=r;cases lv<;>cases iv<;>cases r<;>simp
  have tV:lv=true/\iv=true/\aG x.args.length A.length=true:=by
   revert hp;cases lv<;>cases iv<;>simp[aG]
  obtain⟨rfl,rfl,e1⟩:=tV;rw[e1];show AW _ _ _ _ (blockQ _ (seqQ _ (retQ _ _ (fun d _=>d=B (x.args.all (g9 f x.to)))))) _;clear Eh Ei bJ bm hp e1 e0 fE;refine aB (au ?_);refine SS ?_
  refine ab (bZ (fun s=>Ghost prog s ⟨ax [],fun _=>none,2⟩/\∀ (j:Nat) y,x.args[j]? =some y->g9 f x.to y=true) (cP (α:=Nat) (fun k=>⟨ax [(3,.pt (bq f (bC L))),(4,.pt (a8 x)),(7,I k)],fun _=>none,2⟩)
   (fun k=>k<=x.args.length/\∀ j y,j<k->x.args[j]? =some y->g9 f x.to y=true) (fun k=>x.args.length - k) 0 (ao eH) ⟨oG,fun j y hj=>by omega⟩ ?_) ?_)
  .rintro k ⟨hk,hinv⟩;refine aR ?_;refine ab ⟨_,rfl,fun h=>?_,fun h=>?_⟩
   .have al:k<x.args.length:=by simpa using h
    have hx:x.args[k]? =some x.args[k]:=aL al;generalize x.args[k]=y at hx;have tU:= @Wa y;refine dz Pu ?_;refine bH ?_;refine cl tU ?_;refine SS ?_;refine bf bg (an rfl (fun hp=>?_) fun hp=>?_)
    .refine ws ?_;refine SS ?_;refine ab (aU (cq (aO (bk (aO (aq (d:=B false) rfl ?_))))));have:x.args.all (g9 f x.to)=false:=List.all_eq_false.2 ⟨y,cg hx,by simpa using hp⟩;rw[this]
    .refine cD ?_;refine ap ?_;refine ab (aP (k+1) (ao eH) ⟨oG,fun j z hj hz=>?_⟩ oG);by_cases e:j=k
     .subst e;rw[hx] at hz;cases hz;simpa using hp
     .exact hinv j z oG hz
   .have a9:¬ k<x.args.length:=by simpa using h
    exact⟨.forget _ _ _ _ fun _=>.inr rfl,fun j y hy=>hinv j y (by have:=(bA.1 hy).1;omega) hy⟩
  .rintro s ⟨hg,bt⟩;refine⟨_,hg,aj ?_⟩;refine SS ?_;refine ab (aU (bk (aO (aq (d:=B true) rfl ?_))))
   have:x.args.all (g9 f x.to)=true:=br.2 fun y hy=>by
    obtain⟨j,hj⟩:=dh hy;exact bt j y hj
   rw[this]
 have zm:¬ x.op=19:=by simpa using zm
 refine jN (aj ?_);refine SS ?_;refine ab (aq (d:=.s (.bool _)) rfl ?_);rw[dd,if_neg h0,if_neg h1,if_neg (by rw[h2];decide),if_neg h3,if_neg h4,if_neg h5,if_neg C,if_neg J,if_neg M,if_neg (by rw[X];decide),if_neg U,if_neg o8,if_neg qm,if_neg rJ,if_neg zm]
section
variable{f:aA}{hd:D}(ht:Tr hd)(cS:hd.one=true)
include ht cS
theorem yC{x:Argus.End}(hw:∀ w∈x.az,w.name.size<=maxLen)(hn:f.blocks.length<=1200):PCall prog 221 [.agg (bq f hd),.agg (aW x)] (B (jH f x)):=by
 have fp:∀ {b:Int},PCall prog 170 [.agg (bq f hd),I b] (B (bI f b)):=fun {b}=>fp ht cS hn;have aT:∀ a∈[D.agg (bq f hd),.agg (aW x)],Tr a:=.cons (.agg (qG ht f)) (.cons (.agg (iQ x)) .nil);refine a7 Wb aT (Tr.s _) ?_;rw[Wc];refine au ?_;refine ap ?_;refine ab (aJ (bj [(0,bq f hd,208),(1,aW x,69)] eH (l:=[(2,.pt (bq f hd)),(3,.pt (aW x))]) eH) (aB (aj ?_)));have X:jH f x=(An f x.az&&(decide ((x.az.length:Int)<=7)&&(decide (x.b7= -1)||bI f x.b7))):=rfl;rw[X];clear X;generalize U:bI f x.b7=bo;have M:PCall prog 170 [.agg (bq f hd),I x.b7] (B bo):=U▸fp;clear U;have Wd:= @fp;clear fp;have fp:=M;refine aQ ?_;refine ap ?_;refine gc fp ?_;refine ap ?_;refine ab (cy rfl (fun h=>?_) fun h=>cu (aB (au ?_)))
 .refine aB (aj ?_);refine SS ?_;refine ab (di (aq (d:=B false) rfl ?_))
  have h2:(decide ((x.az.length:Int)<=7)&&(decide (x.b7= -1)||bo))=false:=by
   revert h;cases bo<;>simp<;>grind
  rw[h2,Bool.and_false]
 have h2:(decide ((x.az.length:Int)<=7)&&(decide (x.b7= -1)||bo))=true:=by
  revert h;cases bo<;>simp<;>grind
 have h7:x.az.length<=7:=by
  rw[aM,decide_eq_true_eq] at h2;omega
 rw[h2,Bool.and_true];clear h h2 fp M;refine SS ?_
 refine ab (bZ (fun s=>Ghost prog s ⟨ax [],fun _=>none,2⟩/\∀ (j:Nat) y,x.az[j]? =some y->ll f x.az j y=true) (cP (α:=Nat) (fun k=>⟨ax [(2,.pt (bq f hd)),(3,.pt (aW x)),(5,I k)],fun _=>none,2⟩)
  (fun k=>k<=x.az.length/\∀ j y,j<k->x.az[j]? =some y->ll f x.az j y=true) (fun k=>x.az.length - k) 0 (ao eH) ⟨oG,fun j y hj=>by omega⟩ ?_) ?_)
 .rintro k ⟨hk,hinv⟩;refine aR ?_;refine ab ⟨_,rfl,fun h=>?_,fun h=>?_⟩
  .have al:k<x.az.length:=by simpa using h
   have hx:x.az[k]? =some x.az[k]:=aL al;have kJ:=kJ (hw _ (bR al));generalize x.az[k]=w at hx kJ;have J:ll f x.az k w=(isName w.name&&(bI f w.to&& !(x.az.take k).any fun v=>v.name.toList==w.name.toList)):=rfl;have fp:= @Wd w.to;generalize isName w.name=a at kJ J;generalize bI f w.to=b at fp J;refine aB (dz QH ?_);refine bF ?_;refine cl kJ ?_;refine bF ?_;refine bl rfl rfl (rU rfl rfl V.h V.h (wD) oN) (fun hc=>⟨ak,(rV V.h (wD) oN)⟩) ?_;refine af ?_;refine gc fp ?_;refine af ?_;refine bf bg (cy rfl (fun hp=>?_) fun hp=>cu (au ?_))
   .refine aB (aj ?_);refine SS ?_;refine ab (di (cq (aO (aq (d:=B false) rfl ?_))))
    have:ll f x.az k w=false:=by
     rw[J];revert hp;cases a<;>cases b<;>simp
    rw[BX hx this]
   have oY:a=true/\b=true:=by revert hp;cases a<;>cases b<;>simp
   obtain⟨rfl,rfl⟩:=oY;refine SS ?_
   refine ab (cP (α:=Nat) (fun q=>⟨ax [(2,.pt (bq f hd)),(3,.pt (aW x)),(5,I k),(6,I q)],fun _=>none,2⟩)
    (fun q=>q<=k/\∀ j y,j<q->x.az[j]? =some y->(y.name.toList==w.name.toList)=false) (fun q=>k - q) 0 (ao eH) ⟨oG,fun j y hj=>by omega⟩ ?_)
   rintro q ⟨hq,kO⟩;refine ap ?_;refine ab ⟨_,rfl,fun h=>?_,fun h=>?_⟩
   .have uz:q<k:=by simpa using h
    have hy:x.az[q]? =some x.az[q]:=aL oG;generalize x.az[q]=y at hy;refine dz Pv ?_;refine aQ ?_;refine ap ?_;refine aD (Dq rfl rfl) ak trivial ?_;refine bf bg (an rfl (fun hp=>?_) fun hp=>?_)
    .refine ws ?_;refine SS ?_;refine ab (aU (cq (cq (aO (aq (d:=B false) rfl ?_)))))
     have:ll f x.az k w=false:=by
      rw[J,List.any_eq_true.2 ⟨y,cg (i:=q) (by rw[List.getElem?_take,if_pos uz,hy]),hp⟩];rfl
     rw[BX hx this]
    .refine cD ?_;refine ap ?_;refine ab (aP (q+1) (ao eH) ⟨oG,fun j z hj C=>?_⟩ oG);by_cases e:j=q
     .subst e;rw[hy] at C;cases C;exact hp
     .exact kO j z oG C
   .have a9:¬ q<k:=by simpa using h
    have:q=k:=by omega
    subst this;show AOps _ _ _ _ _ _ _ _ _;refine ap ?_;refine ab (aP (q+1) (ao eH) ⟨oG,fun j z hj C=>?_⟩ oG);by_cases e:j=q
    .subst e;rw[hx] at C;cases C;rw[J]
     have:((x.az.take j).any fun v=>v.name.toList==w.name.toList)=false:=List.any_eq_false.2 fun v hv=>by
      obtain⟨i,hi⟩:=dh hv;have my:i<j:=by have:=(bA.1 hi).1;simp at this;omega
      rw[List.getElem?_take,if_pos my] at hi;rw[kO i v my hi];simp
     rw[this];rfl
    .exact hinv j z oG C
  .have a9:¬ k<x.az.length:=by simpa using h
   exact⟨.forget _ _ _ _ fun _=>.inr rfl,fun j y hy=>hinv j y (by have:=(bA.1 hy).1;omega) hy⟩
 .rintro s ⟨hg,bt⟩;refine⟨_,hg,aj ?_⟩;refine SS ?_;refine ab (aq (d:=B true) rfl ?_);rw[Gv bt]
theorem Ba{x:Argus.End}(BF:x.name.size<=maxLen)(hw:∀ w∈x.az,w.name.size<=maxLen)(hn:f.blocks.length<=1200):PCall prog 172 [.agg (bq f hd),.agg (aW x)] (B (fc f x)):=by
 have fp:∀ {b:Int},PCall prog 170 [.agg (bq f hd),I b] (B (bI f b)):=fun {b}=>fp ht cS hn;have bm:∀ {r k:Int},PCall prog 215 [.agg (bq f hd),I r,U8 k] (B (aY f r k)):=fun {r k}=>bm ht cS;have p8:∀ {l:List Int},PCall prog 217 [.agg (bq f hd),aC l] (B (eT f.ag l)):=fun {l}=>p8 ht cS;have EV:PCall prog 220 [.agg (bq f hd),.agg (a8 x.ins)] (B (iG f x.ins)):=EV ht cS;have yC:=yC ht cS hw hn;have tT:=tT BF;have kJ:=kJ BF;have aT:∀ a∈[D.agg (bq f hd),.agg (aW x)],Tr a:=.cons (.agg (qG ht f)) (.cons (.agg (iQ x)) .nil);refine a7 We aT (Tr.s _) ?_;rw[Wf];refine ws ?_;refine ap ?_;refine ab (au ?_);refine SS ?_;refine MT ?_;refine SS ?_;refine cE (fR (cs':=ay _) rfl rfl rfl rfl) ak (dx V.h V.h (by first|(simp;done)|exact⟨rfl,bn rfl⟩|(simp;omega)) (by rfl)) ?_;refine ab (aJ (bj [(0,bq f hd,208),(1,aW x,69),(2,ay f,26)] eH (l:=[(2,.pt (bq f hd)),(3,.pt (aW x)),(5,.pt (ay f))]) eH) (aB (aj ?_)));refine af ?_;refine ab (kf ?_);refine ws ?_;refine af ?_;refine ab (an rfl (fun h1=>?_) fun h1=>?_)
 .have h1:x.kind=1:=by simpa using h1
  have dJ:PCall prog 219 [.agg (aW x),S ⟨#[116]⟩] (B (c7 x [116])):=dJ oC;refine ws ?_;refine SS ?_;refine cl dJ ?_;refine aN ?_;refine gc fp ?_;refine af ?_;refine ab (aU (bk (aO (aq (d:=.s (.bool _)) rfl ?_))));have e:fc f x=(c7 x [116]&&bI f x.to):=by rw[fc,if_pos h1]
  rw[e];simp only[fj,tw,Bool.and_assoc,aG,ib]
 have h1:¬ x.kind=1:=by simpa using h1
 refine ws ?_;refine af ?_;refine ab (an rfl (fun h2=>?_) fun h2=>?_)
 .have h2:x.kind=2:=by simpa using h2
  have dJ:PCall prog 219 [.agg (aW x),S ⟨#[97,116,101]⟩] (B (c7 x [97,116,101])):=dJ oC;refine ws ?_;refine SS ?_;refine cl dJ ?_;refine aN ?_;refine gc bm ?_;refine aR ?_;refine gc fp ?_;refine aR ?_;refine gc fp ?_;refine af ?_;refine ab (aU (bk (aO (aq (d:=.s (.bool _)) rfl ?_))));have e:fc f x=(c7 x [97,116,101]&&(aY f x.a 119&&(bI f x.to&&bI f x.eD))):=by rw[fc,if_neg h1,if_pos h2]
  rw[e];simp only[fj,tw,Bool.and_assoc,aG,ib]
 have h2:¬ x.kind=2:=by simpa using h2
 refine ws ?_;refine af ?_;refine ab (an rfl (fun h3=>?_) fun h3=>?_)
 .have h3:x.kind=3:=by simpa using h3
  have dJ:PCall prog 219 [.agg (aW x),S ⟨#[97]⟩] (B (c7 x [97])):=dJ oC;have hv:fc f x=if f.iter=true\/f.result=0 then c7 x [97]&&aG x.a (-1) else c7 x [97]&&(aY f x.a 118&&aG (bP f.ag x.a) f.result):=by rw[fc,if_neg h1,if_neg h2,if_pos h3]
  rw[hv];clear hv;refine aB (aj ?_);refine dF ?_;refine ab (cy rfl (fun h=>?_) fun h=>cu ?_)
  .have lC:f.iter=true\/f.result=0:=by revert h;cases f.iter<;>simp
   rw[if_pos lC];refine aB (aj ?_);refine SS ?_;refine cl dJ ?_;refine bF ?_;refine ab (di (bk (aO (aq (d:=.s (.bool _)) rfl ?_))));simp only[fj,aG,ib]
  .have lC:¬ (f.iter=true\/f.result=0):=by revert h;cases f.iter<;>simp
   rw[if_neg lC];clear lC h;obtain⟨xk,xa,xb,xt,xe,xn,xi,xs,xw,xo⟩:=x;dsimp only at*
   refine dz Pw ?_;generalize c7 _ [97]=bv at dJ;cases bv with
   |false=>
    refine SS ?_;refine cl dJ ?_;refine SS ?_;(iterate 4 refine z fun _ _=>?_);refine af ?_;(iterate 9 refine z fun _ _=>?_);refine af ?_;exact bf bg (aU (bk (aO (aq rfl rfl))))
   |true=>
    have M:= @bm xa 118;cases hv:aY f xa 118 with
    |false=>
     rw[hv] at M;have bm:=M;refine SS ?_;refine cl dJ ?_;refine aN ?_;refine gc bm ?_;refine af ?_;(iterate 9 refine z fun _ _=>?_);refine af ?_;exact bf bg (aU (bk (aO (aq rfl rfl))))
    |true=>
     rw[hv] at M;have bm:=M;obtain⟨i,hi,rfl⟩:=iO (kU hv);have hx:f.ag[i]? =some f.ag[i]:=aL hi;have zh:=py hx;rw[zh];generalize f.ag[i]=y at hx;refine SS ?_;refine cl dJ ?_;refine aN ?_;refine gc bm ?_;refine aQ ?_;refine aN ?_;refine bf bg (aU (bk (aO (aq (d:=.s (.bool _)) rfl ?_))));rfl
 have h3:¬ x.kind=3:=by simpa using h3
 refine ws ?_;refine af ?_;refine ab (an rfl (fun h4=>?_) fun h4=>?_)
 .have h4:x.kind=4:=by simpa using h4
  have dJ:PCall prog 219 [.agg (aW x),S ⟨#[110]⟩] (B (c7 x [110])):=dJ oC;refine ws ?_;refine SS ?_;refine cl dJ ?_;refine ap ?_;refine gc kJ ?_;refine af ?_;refine ab (aU (bk (aO (aq (d:=.s (.bool _)) rfl ?_))));have e:fc f x=(c7 x [110]&&isName x.name):=by rw[fc,if_neg h1,if_neg h2,if_neg h3,if_pos h4]
  rw[e];simp only[fj,tw,Bool.and_assoc,aG,ib]
 have h4:¬ x.kind=4:=by simpa using h4
 refine ws ?_;refine af ?_;refine ab (an rfl (fun h5=>?_) fun h5=>?_)
 .have h5:x.kind=5:=by simpa using h5
  have dJ:PCall prog 219 [.agg (aW x),S ⟨#[116,105,104]⟩] (B (c7 x [116,105,104])):=dJ oC;refine ws ?_;refine SS ?_;refine cl dJ ?_;refine aN ?_;refine gc EV ?_;refine aR ?_;refine gc fp ?_;refine aN ?_;refine gc yC ?_;refine af ?_;refine ab (aU (bk (aO (aq (d:=.s (.bool _)) rfl ?_))));have e:fc f x=(c7 x [116,105,104]&&(iG f x.ins&&(bI f x.to&&jH f x))):=by rw[fc,if_neg h1,if_neg h2,if_neg h3,if_neg h4,if_pos h5]
  rw[e];simp only[fj,tw,Bool.and_assoc,aG,ib]
 have h5:¬ x.kind=5:=by simpa using h5
 refine ws ?_;refine af ?_;refine ab (an rfl (fun C=>?_) fun C=>?_)
 .have C:x.kind=6:=by simpa using C
  have dJ:PCall prog 219 [.agg (aW x),S ⟨#[97,116,110,108,104]⟩] (B (c7 x [97,116,110,108,104])):=dJ oC;refine ws ?_;refine SS ?_;refine cl dJ ?_;refine ap ?_;refine gc tT ?_;refine aQ ?_;refine af ?_;refine gc p8 ?_;refine aQ ?_;refine gc bm ?_;refine bF ?_;refine gc fp ?_;refine aN ?_;refine gc yC ?_;refine af ?_;refine ab (aU (bk (aO (aq (d:=.s (.bool _)) rfl ?_))));have e:fc f x=(c7 x [97,116,110,108,104]&&(iX x.name&&(decide ((x.args.length:Int)<=6)&&(eT f.ag x.args&&((aG x.a (-1)||aY f x.a 118)&&(bI f x.to&&jH f x)))))):=by rw[fc,if_neg h1,if_neg h2,if_neg h3,if_neg h4,if_neg h5,if_pos C]
  rw[e];simp only[fj,tw,Bool.and_assoc,aG,ib]
 have C:¬ x.kind=6:=by simpa using C
 refine ws ?_;refine af ?_;refine ab (an rfl (fun J=>?_) fun J=>?_)
 .have J:x.kind=7:=by simpa using J
  have dJ:PCall prog 219 [.agg (aW x),S ⟨#[97,116,110,108]⟩] (B (c7 x [97,116,110,108])):=dJ oC;refine ws ?_;refine SS ?_;refine cl dJ ?_;refine ap ?_;refine gc tT ?_;refine aQ ?_;refine af ?_;refine gc p8 ?_;refine aR ?_;refine gc bm ?_;refine aR ?_;refine gc fp ?_;refine af ?_;refine ab (aU (bk (aO (aq (d:=.s (.bool _)) rfl ?_))));have e:fc f x=(c7 x [97,116,110,108]&&(iX x.name&&(decide ((x.args.length:Int)<=6)&&(eT f.ag x.args&&(aY f x.a 105&&bI f x.to))))):=by rw[fc,if_neg h1,if_neg h2,if_neg h3,if_neg h4,if_neg h5,if_neg C,if_pos J]
  rw[e];simp only[fj,tw,Bool.and_assoc,aG,ib]
 have J:¬ x.kind=7:=by simpa using J
 refine ws ?_;refine af ?_;refine ab (an rfl (fun U=>?_) fun U=>?_)
 .have U:x.kind=8:=by simpa using U
  have dJ:PCall prog 219 [.agg (aW x),S ⟨#[97,98,116,101,104]⟩] (B (c7 x [97,98,116,101,104])):=dJ oC;refine ws ?_;refine SS ?_;refine cl dJ ?_;refine aN ?_;refine gc bm ?_;refine aR ?_;refine gc bm ?_;refine aR ?_;refine gc fp ?_;refine aR ?_;refine gc fp ?_;refine aN ?_;refine gc yC ?_;refine af ?_;refine ab (aU (bk (aO (aq (d:=.s (.bool _)) rfl ?_))));have e:fc f x=(c7 x [97,98,116,101,104]&&(aY f x.a 105&&(aY f x.b 118&&(bI f x.to&&(bI f x.eD&&jH f x))))):=by rw[fc,if_neg h1,if_neg h2,if_neg h3,if_neg h4,if_neg h5,if_neg C,if_neg J,if_pos U]
  rw[e];simp only[fj,tw,Bool.and_assoc,aG,ib]
 have U:¬ x.kind=8:=by simpa using U
 refine ws ?_;refine af ?_;refine ab (an rfl (fun X=>?_) fun X=>?_)
 .have X:x.kind=9:=by simpa using X
  have dJ:PCall prog 219 [.agg (aW x),S ⟨#[97,116]⟩] (B (c7 x [97,116])):=dJ oC;have hv:fc f x=(c7 x [97,116]&&(f.iter&&(aY f x.a 118&&(aG (bP f.ag x.a) f.result&&bI f x.to)))):=by rw[fc,if_neg h1,if_neg h2,if_neg h3,if_neg h4,if_neg h5,if_neg C,if_neg J,if_neg U,if_pos X]
  rw[hv];clear hv;obtain⟨xk,xa,xb,xt,xe,xn,xi,xs,xw,xo⟩:=x;dsimp only at*
  refine dz Px ?_;generalize c7 _ [97,116]=bv at dJ;have M:= @bm xa 118;have kb:= @fp xt;generalize bI f xt=bb at kb;have fp:=kb;cases bv with
  |false=>
   refine SS ?_;refine cl dJ ?_;refine SS ?_;(iterate 2 refine z fun _ _=>?_);refine af ?_;(iterate 4 refine z fun _ _=>?_);refine af ?_;(iterate 9 refine z fun _ _=>?_);refine af ?_;(iterate 4 refine z fun _ _=>?_);refine af ?_;exact bf bg (aU (bk (aO (aq rfl rfl))))
  |true=>
   obtain⟨fnm,fi,fa,fr,fg,fs,fz,fb⟩:=f;dsimp only at*
   cases fi with
   |false=>
    refine SS ?_;refine cl dJ ?_;refine aR ?_;(iterate 4 refine z fun _ _=>?_);refine af ?_;(iterate 9 refine z fun _ _=>?_);refine af ?_;(iterate 4 refine z fun _ _=>?_);refine af ?_;exact bf bg (aU (bk (aO (aq rfl rfl))))
   |true=>
    cases hv:aY ⟨fnm,true,fa,fr,fg,fs,fz,fb⟩ xa 118 with
    |false=>
     rw[hv] at M;have bm:=M;refine SS ?_;refine cl dJ ?_;refine bH ?_;refine gc bm ?_;refine af ?_;(iterate 9 refine z fun _ _=>?_);refine af ?_;(iterate 4 refine z fun _ _=>?_);refine af ?_;exact bf bg (aU (bk (aO (aq rfl rfl))))
    |true=>
     rw[hv] at M;have bm:=M;obtain⟨i,hi,rfl⟩:=iO (kU hv);have hx:fg[i]? =some fg[i]:=aL hi;have zh:=py hx;rw[zh];generalize fg[i]=y at hx;cases sX:decide (y=fr) with
     |false=>
      have fE:(y==fr)=false:=by simpa using sX
      refine SS ?_;refine cl dJ ?_;refine bH ?_;refine gc bm ?_;refine aQ ?_;refine aN ?_;(iterate 4 refine z fun _ _=>?_);refine af ?_;refine bf bg (aU (bk (aO (aq (d:=.s (.bool _)) rfl ?_))));simp[aG,sX]
     |true=>
      have fE:(y==fr)=true:=by simpa using sX
      refine SS ?_;refine cl dJ ?_;refine bH ?_;refine gc bm ?_;refine aQ ?_;refine dF ?_;refine gc fp ?_;refine af ?_;refine bf bg (aU (bk (aO (aq (d:=.s (.bool _)) rfl ?_))));simp[aG,sX]
 have X:¬ x.kind=9:=by simpa using X
 refine jN (aj ?_);refine SS ?_;refine ab (aq (d:=.s (.bool _)) rfl ?_);rw[fc,if_neg h1,if_neg h2,if_neg h3,if_neg h4,if_neg h5,if_neg C,if_neg J,if_neg U,if_neg X]
end
theorem ig{f:aA}{b:Nat}{x:Argus.bu}(hx:f.blocks[b]? =some x)(hw:x.fin.az.length<=100):PCall prog 76 [.agg (ay f),I b] (aC (l0 x.fin)):=by
 have nB:=nB (x:=x.fin) oG;have M:=wF x.fin;refine a7 Y5 (.cons (.agg (fq f)) (.cons (.s _) .nil)) (cW _) ?_;rw[Y6];refine au ?_;refine af ?_;refine ab (aJ (bj [(0,ay f,26)] eH (l:=[(1,I b),(2,.pt (ay f))]) eH) (au ?_));refine SS ?_;refine ab ⟨_,(Ghost.nilrow _ _ _ 5 3 rfl).trans (bj [(1,[],3)] ⟨up_same _ _ _,trivial⟩ (l:=[(1,I b),(2,.pt (ay f)),(5,aC [])]) ⟨rfl,rfl,iA (sz:=1) c3 rfl,trivial⟩),aj ?_⟩;unfold l0;generalize cX x.fin=l at nB M;refine bF ?_;refine cl nB ?_;refine SS ?_;refine ab (aB (au ?_));refine SS ?_
 refine ab (bZ (fun s=>Ghost prog s ⟨ax [(5,aC (oh l))],fun _=>none,2⟩) (cP (α:=Nat) (fun k=>⟨ax [(5,aC (oh (l.take k))),(6,aC l),(7,I k)],fun _=>none,2⟩)
  (fun k=>k<=l.length) (fun k=>l.length - k) 0 (ao eH) oG ?_) ?_)
 .intro k hk;have J:=(wJ (l:=l.take k) (z:=[]) .nil).2.2;have C:∀ t,l[k]? =some t->oh (l.take (k+1))=gQ (oh (l.take k)) t:=fun t ht=>lL ht;have U:k=l.length->oh (l.take k)=oh l:=fun e=>by rw[e,List.take_length]
  change (oh (l.take k)).length<=_ at J
  rw[List.length_take,List.length_nil] at J;generalize oh (l.take k)=c at J C U;refine aN ?_;refine ab ⟨_,rfl,fun h=>?_,fun h=>?_⟩
  .have al:k<l.length:=by simpa using h
   have hy:l[k]? =some l[k]:=aL al;have C:=C _ hy;generalize l[k]=t at hy C;have FU:=FU (l:=c) (n:=t) oG;refine fJ ?_;refine aR ?_;refine cl FU ?_;refine SS ?_;refine ab ?_;refine ap ?_;refine ab (aP (k+1) (ao ⟨?_,rfl,rfl,trivial⟩) oG oG);rw[C];rfl
  .have X:¬ k<l.length:=by simpa using h
   rw[<- U oG];exact ao eH
 .intro s hg;refine⟨_,hg,aj ?_⟩;refine af ?_;exact ab (aq rfl rfl)
set_option maxHeartbeats 1000000 in
theorem sY{f:aA}{n:Nat}(hn:f.blocks.length=n)(lB:n<=100000)(hw:∀ b∈f.blocks,b.fin.az.length<=9)(ht:∀ b∈f.blocks,∀ t∈l0 b.fin,0<=t/\t<n):
 PCall prog 56 [.agg (ay f)] (bC (lQ f.blocks)):=by
 have aT:∀ a∈[D.agg (ay f)],Tr a:=.cons (.agg (fq f)) .nil;refine a7 Y7 aT (uQ _) ?_;rw[Y8];refine au ?_;refine af ?_;refine ab (aJ (bj [(0,ay f,26)] eH (l:=[(1,.pt (ay f))]) eH) (au ?_));refine aR ?_;have du:((f.blocks.length:Nat):Int).toNat=n:=hn;refine ab (aJ (aH (l:=[(1,.pt (ay f)),(3,.rs 1 0 n)]) (ml:=[(1,.cells (List.replicate n .z) 27)]) ⟨rfl,congrArg (fun k=>D.rs 1 0 k) du,trivial⟩ ⟨?_,trivial⟩) (aB (au ?_)))
 .exact congrArg (fun c=>some (Row.cells c 27)) ((congrArg (fun k=>replD k [D.z]) du).trans (Aa n))
 refine SS ?_
 refine ab (bZ (fun s=>∃ m nx ρ,Ghost prog s ⟨ax [(3,.rs 1 0 n)],m,nx⟩/\fh m nx 1 n 27 3 ρ (fun i=>(iY f.blocks n i).map I)) (cP (α:=Nat×Mem×Nat)
  (fun k=>⟨ax [(1,.pt (ay f)),(3,.rs 1 0 n),(4,I k.1)],k.2.1,k.2.2⟩)
  (fun k=>k.1<=n/\(∃ ρ,fh k.2.1 k.2.2 1 n 27 3 ρ (fun i=>(iY f.blocks k.1 i).map I))/\∀ i,(iY f.blocks k.1 i).length<=12*k.1) (fun k=>n - k.1) (0,bc [(1,.cells (List.replicate n .z) 27)],2)
  (ao eH) ⟨Nat.zero_le _,⟨fun _=>0,CH (show 1<2 by decide) rfl⟩,fun _=>bE _⟩ ?_) ?_)
 .rintro⟨k,m,nx⟩ ⟨hk,⟨ρ,C⟩,hlen⟩;dsimp only at hk C hlen ⊢;have av:=C.row;have cI:=C.oX;refine aR ?_;refine ab ⟨_,rfl,fun h=>?_,fun h=>?_⟩
  .have al:k<n:=by simpa[hn] using h
   have hx:f.blocks[k]? =some f.blocks[k]:=aL oG;have X:f.blocks[k]∈f.blocks:=bR _;have ig:=ig hx (by have:=hw _ X;omega);generalize f.blocks[k]=x at hx X ig
   have bL:iY f.blocks (k+1)=(l0 x.fin).foldl (cO k) (iY f.blocks k):=by
    rw[iY,List.range_succ,List.foldl_append];show wX f.blocks _ k=_;rw[wX,hx];rfl
   generalize iY f.blocks k=L0 at C hlen av bL;have cB:=ht x X;have gF:=QI x.fin;have By:=hw x X;generalize l0 x.fin=l at ig cB gF bL;refine ws ?_;refine af ?_;refine cl ig ?_;refine SS ?_;refine ab (au ?_);refine SS ?_
   refine ab (cP (α:=Nat×Mem×Nat)
    (fun j=>⟨ax [(1,.pt (ay f)),(3,.rs 1 0 n),(4,I k),(5,aC l),(6,I j.1)],j.2.1,j.2.2⟩)
    (fun j=>j.1<=l.length/\(∃ ρ,fh j.2.1 j.2.2 1 n 27 3 ρ (fun i=>((l.take j.1).foldl (cO k) L0 i).map I))/\∀ i,((l.take j.1).foldl (cO k) L0 i).length<=12*k+j.1) (fun j=>l.length - j.1) (0,m,nx)
    (ao eH) ⟨Nat.zero_le _,⟨ρ,C⟩,hlen⟩ ?_)
   clear C av hlen;rintro⟨j,m,nx⟩ ⟨hj,⟨ρ,C⟩,hlen⟩;dsimp only at hj C hlen ⊢;have av:=C.row;have cI:=C.oX;have U:∀ t,l[j]? =some t->(l.take (j+1)).foldl (cO k) L0=cO k ((l.take j).foldl (cO k) L0) t:=fun t ht=>lL ht;have lk:j=l.length->(l.take j).foldl (cO k) L0=iY f.blocks (k+1):=fun e=>by rw[bL,cL oG]
   generalize (l.take j).foldl (cO k) L0=L at C hlen av U lk;refine aN ?_;refine ab ⟨_,rfl,fun h=>?_,fun h=>?_⟩
   .have ss:j<l.length:=by simpa using h
    have rz:l[j]? =some l[j]:=aL ss;have kS:=cB _ (bR ss);generalize l[j]=t at rz kS;obtain⟨i,rfl⟩:=eC kS.1;have J:i<n:=by omega
    have hL:=hlen i;have U:(l.take (j+1)).foldl (cO k) L0=up L i (L i++[(k:Int)]):=U _ rz
    have od:∀ i,((l.take (j+1)).foldl (cO k) L0 i).length<=12*k+(j+1):=fun a=>by
     rw[U];exact zx (t:=(i:Int)) hlen a
    have sT:(fun a=>((l.take (j+1)).foldl (cO k) L0 a).map I)=up (fun a=>(L a).map I) i ((L i++[(k:Int)]).map I):=by rw[U];exact DA
    obtain⟨cs,kd⟩:=CG (ρ:=ρ) (L:=fun i=>(L i).map I) J;refine kX RT ?_;by_cases hz:L i=[]
    .have o4:jc (ρ i) ((L i).map I)=.z:=by rw[hz];rfl
     rw[o4] at kd;refine aQ ?_;refine bH ?_;refine bf bg ?_;refine ap ?_;refine ab (aP (j+1,up (up (up m nx (some (.cells [I k] 3))) (nx+1) (some (.cells [I k] 3))) 1 (some (.cells ((kI ρ (fun i=>(L i).map I) n).set i (.rs (nx+1) 0 1)) 27)),nx+2) (ao eH) ⟨oM,⟨up ρ i (nx+1),?_⟩,od⟩ oM);dsimp only;rw[sT];refine C.wl J oS oG oG ?_ ?_ (fun q hq qi _=>?_)
     .rw[hz];exact up_same _ _ _
     .rw[hz];exact aw oG (up_same _ _ _)
     .exact aw oG (aw oG (aw oG rfl))
    .have M:(L i).map I≠[]:=by simpa using hz
     have o4:jc (ρ i) ((L i).map I)=.rs (ρ i) 0 (L i).length:=by rw[nq M,List.length_map]
     rw[o4] at kd;have eO:=C.qT i J M;have wq:=C.lt i J M;have NE:=C.ne i J M;refine aQ ?_;refine bH ?_;refine bf bg ?_;refine ap ?_;refine ab (aP (j+1,up (up (up (up m nx (some (.cells [I k] 3))) (ρ i) none) (nx+1) (some (.cells ((L i).map I++[I k]) 3))) 1 (some (.cells ((kI ρ (fun i=>(L i).map I) n).set i (.rs (nx+1) 0 ((L i).length+1))) 27)),nx+2) (ao eH) ⟨oM,⟨up ρ i (nx+1),?_⟩,od⟩ oM);dsimp only;rw[sT];refine C.wl J oS oG oG ?_ ?_ (fun q hq qi kO=>?_)
     .rw[List.length_map,List.length_append];exact up_same _ _ _
     .rw[List.map_append];exact aw oG (up_same _ _ _)
     .have:=kO M;exact aw oG (aw oG (aw oG (aw oG rfl)))
   .have a9:¬ j<l.length:=by simpa using h
    have vl:=lk oG;subst vl;show AOps _ _ _ _ _ _ _ _ _;refine ap ?_;refine ab (aP (k+1,m,nx) (ao eH) ⟨oM,⟨ρ,C⟩,fun i=>by have:=hlen i;dsimp only at this ⊢;omega⟩ oM)
  .have a9:¬ k<n:=by simpa[hn] using h
   have:k=n:=by omega
   subst this;exact⟨m,nx,ρ,ao eH,C⟩
 .rintro s ⟨m,nx,ρ,hg,C⟩;have oZ:¬ ∃ i,i<n/\(iY f.blocks n i).map I≠[]/\ρ i=1:=fun⟨i,h1,h2,h3⟩=>C.ne i h1 h2 h3;refine⟨_,hg.trans (Ck (l:=[(3,.rs 1 0 n)]) (ml:=[]) (fun r=>∃ i,i<n/\(iY f.blocks n i).map I≠[]/\ρ i=r) C (fun _=>.map) c3 (fun i h1 h2=>⟨i,h1,h2,rfl⟩) oZ ⟨rfl,trivial⟩ (fun x hx=>?_) trivial (fun x hx=>by cases hx)),au ?_⟩
  .simp at hx;subst hx;exact .rs oZ
  refine af ?_;refine ab (aJ (bj [(1,_,27)] eH (l:=[(2,bC (lQ f.blocks))]) ⟨?_,trivial⟩) (aq rfl rfl));show sub (fz0 1 _ (prog.cellsOf 27)) (D.rs 1 0 n)=_;rw[lM (by rw[wu];simp),CI,lQ,hn]
set_option maxHeartbeats 2000000 in
theorem vK{f:aA}(hs:sb f)(hw:∀ b∈f.blocks,b.fin.az.length<=9):PCall prog 120 [.agg (ay f)] (B (qv f)):=by
 have vJ:=vJ hs;refine a7 Wg (.cons (.agg (fq f)) .nil) (Tr.s _) ?_;rw[Wh];refine au ?_;refine af ?_;refine ab (aJ (bj [(0,ay f,26)] eH (l:=[(1,.pt (ay f))]) eH) (aj ?_));cases hh:nr f with
 |false=>
  rw[hh] at vJ;refine SS ?_;refine cl vJ ?_;refine SS ?_;refine ab (aB (aj ?_));refine af ?_;refine ab (np ?_);refine aB (aj ?_);refine SS ?_;refine ab (di (aq (d:=B false) rfl ?_));rw[qv,hh];rfl
 |true=>
  rw[hh] at vJ;have hF:qv f=(Ac f&&(List.range f.blocks.length).all (nD f)):=by rw[qv,hh];rfl
  rw[hF];clear hF;unfold nr at hh;simp only[aM] at hh;obtain⟨h1,h2,_⟩:=hh;unfold kp at h1;simp only[aM,Bool.not_eq_true',decide_eq_false_iff_not,ir] at h1;have hN:f.blocks.length<=1200:=by omega
  have hR:f.ag.length<=1200:=by omega
  have eg:f.aK.length<=60:=by omega
  have sZ:∀ k∈f.aK,k=1\/k=2:=fun k hk=>by
   unfold m7 at h2;simp only[aM] at h2;have h3:=h2.2.2.1;simp only[dK,Bool.not_eq_true',List.any_eq_false] at h3;have:=h3 k hk;simp[jF] at this;omega
  clear h1 h2;refine SS ?_;refine cl vJ ?_;refine SS ?_;refine ab (aB (aj ?_));refine af ?_;refine ab (oc (cu (au ?_)));refine SS ?_;refine aD (Cv (cs:=bq _ _) V.h V.h V.h rfl rfl) ak ⟨V.h,V.h⟩ ?_;refine SS ?_;refine cE (fR (cs':=bq _ _) rfl rfl rfl rfl) ak (dx V.h V.h (by first|(simp;done)|exact⟨rfl,bn rfl⟩|(simp;omega)) (by rfl)) ?_;refine ab (aJ (aH (l:=[(1,.pt (ay f)),(4,.rp 1 0)]) (ml:=[(1,.cells (bq f .z) 208)]) eH eH) (aB (au ?_)));refine SS ?_
  refine ab (bZ (fun s=>Ghost prog s ⟨ax [(1,.pt (ay f)),(4,.rp 1 0)],bc [(1,.cells (bq f .z) 208)],2⟩/\∀ (j:Nat) x,f.blocks[j]? =some x->(cX x.fin).all (bI f)=true) (cP (α:=Nat) (fun k=>⟨ax [(1,.pt (ay f)),(4,.rp 1 0),(5,I k)],bc [(1,.cells (bq f .z) 208)],2⟩)
   (fun k=>k<=f.blocks.length/\∀ j x,j<k->f.blocks[j]? =some x->(cX x.fin).all (bI f)=true) (fun k=>f.blocks.length - k) 0 (aH eH eH) ⟨oG,fun j y hj=>by omega⟩ ?_) ?_)
  .rintro k ⟨hk,hinv⟩;refine aR ?_;refine ab ⟨_,rfl,fun h=>?_,fun h=>?_⟩
   .have al:k<f.blocks.length:=by simpa using h
    have hx:f.blocks[k]? =some f.blocks[k]:=aL al;have N7:=hw _ (bR al);generalize f.blocks[k]=x at hx N7;have nB:=nB (x:=x.fin) oG;have hle:=wF x.fin;have mj:(cX x.fin).all (bI f)=false->Ac f=false:=fun h=>List.all_eq_false.2 ⟨x,cg hx,by simp[h]⟩
    have LR:(cX x.fin).all (bI f)=true->∀ j y,j<k+1->f.blocks[j]? =some y->(cX y.fin).all (bI f)=true:=fun hq j y hj hy=>by
     by_cases e:j=k
     .subst e;rw[hx] at hy;cases hy;exact hq
     .exact hinv j y oG hy
    generalize cX x.fin=l at nB hle mj LR;refine ws ?_;refine bF ?_;refine cl nB ?_;refine SS ?_;refine ab (au ?_);refine SS ?_
    refine ab (cP (α:=Nat) (fun q=>⟨ax [(1,.pt (ay f)),(4,.rp 1 0),(5,I k),(6,aC l),(7,I q)],bc [(1,.cells (bq f .z) 208)],2⟩)
     (fun q=>q<=l.length/\∀ j y,j<q->l[j]? =some y->bI f y=true) (fun q=>l.length - q) 0 (aH eH eH) ⟨oG,fun j y hj=>by omega⟩ ?_)
    rintro q ⟨hq,kO⟩;refine aN ?_;refine ab ⟨_,rfl,fun h=>?_,fun h=>?_⟩
    .have wy:q<l.length:=by simpa using h
     have hy:l[q]? =some l[q]:=aL wy;generalize l[q]=y at hy;have fp:PCall prog 170 [.agg (bq f .z),I y] (B (bI f y)):=fp AE rfl hN;refine dz Py ?_;refine aD (dQ (vs:=bq _ _) rfl rfl V.h V.h rfl) ak (dR V.h V.h (by first|(simp;done)|omega|exact bn rfl)) ?_;refine aN ?_;refine cl fp ?_;refine SS ?_;refine bf bg (aj ?_);refine af ?_;refine ab (an rfl (fun hp=>?_) fun hp=>?_)
     .refine ws ?_;refine SS ?_;refine ab (aU (cq (cq (aO (aq (d:=B false) rfl ?_)))));rw[mj (List.all_eq_false.2 ⟨y,cg hy,by simpa using hp⟩)];rfl
     .refine cD ?_;refine ap ?_;refine ab (aP (q+1) (aH eH eH) ⟨oG,fun j z hj hz=>?_⟩ oG);by_cases e:j=q
      .subst e;rw[hy] at hz;cases hz;simpa using hp
      .exact kO j z oG hz
    .have a9:¬ q<l.length:=by simpa using h
     show AOps _ _ _ _ _ _ _ _ _;refine ap ?_;refine ab (aP (k+1) (aH eH eH) ⟨oG,LR (br.2 fun y hy=>?_)⟩ oG);obtain⟨j,hj⟩:=dh hy;exact kO j y (by have:=(bA.1 hj).1;omega) hj
   .have a9:¬ k<f.blocks.length:=by simpa using h
    exact⟨aH eH eH,fun j y hy=>hinv j y (by have:=(bA.1 hy).1;omega) hy⟩
  rintro s ⟨hg,M⟩
  have hE:Ac f=true:=br.2 fun x hx=>by
   obtain⟨j,hj⟩:=dh hx;exact M j x hj
  rw[hE,Bool.true_and]
  have cB:∀ b∈f.blocks,∀ t∈l0 b.fin,0<=t/\t<f.blocks.length:=fun b hb t ht=>by
   have:=br.1 (br.1 hE b hb) t (Hf.1 ht);rw[bI,ir] at this;omega
  have sY:=sY (f:=f) rfl oG hw cB;have uA:∀ k,k<f.blocks.length->(lQ f.blocks)[k]? =some (iY f.blocks f.blocks.length k):=fun k hk=>by simp[lQ,hk]
  have BI:(lQ f.blocks).length<=100000:=by simp[lQ];omega
  clear M hE cB;refine⟨_,hg,au ?_⟩;generalize hL:lQ f.blocks=L at sY uA BI;clear hL;refine SS ?_;refine cl sY ?_;refine SS ?_;refine cE (gl (d:=.sl _ _) (cs':=_) rfl rfl rfl rfl rfl) ak (dx V.h V.h (by first|(simp;done)|exact⟨rfl,bn rfl⟩|(simp;omega)) rfl) ?_;refine ab (aJ (bj [(1,bq f (bC L),208)] eH (l:=[(1,.pt (ay f)),(4,.pt (bq f (bC L)))]) eH) (au ?_));refine aR ?_;have du:((f.ag.length:Nat):Int).toNat=f.ag.length:=dg _;refine ab (aJ (aH (l:=[(1,.pt (ay f)),(4,.pt (bq f (bC L))),(9,.rs 2 0 f.ag.length)]) (ml:=[(2,.cells ((List.replicate f.ag.length false).map B) 4)]) ⟨rfl,rfl,congrArg (fun k=>D.rs 2 0 k) du,trivial⟩ ⟨?_,trivial⟩) (aB (au ?_)))
  .exact congrArg (fun c=>some (Row.cells c 4)) ((congrArg (fun k=>replD k [B false]) du).trans (qu _ false))
  rw[<- QJ f.ag.length f.blocks];refine SS ?_
  refine ab (bZ (fun s=>∃ N,Ghost prog s ⟨ax [],fun _=>none,N⟩/\(List.range f.blocks.length).all (nD f)=true) (cP (α:=Nat×Nat) (fun q=>⟨ax [(1,.pt (ay f)),(4,.pt (bq f (bC L))),(9,.rs 2 0 f.ag.length),(10,I q.1)],bc [(2,.cells ((jr f.ag.length f.blocks q.1).map B) 4)],q.2⟩)
   (fun q=>q.1<=f.blocks.length/\3<=q.2/\(List.range q.1).all (nD f)=true) (fun q=>f.blocks.length - q.1) (0,3) (aH eH eH) ⟨Nat.zero_le _,bE _,rfl⟩ ?_) ?_)
  .rintro⟨k,N⟩ ⟨hk,N8,M⟩;dsimp only at hk N8 M ⊢;refine aR ?_;refine ab ⟨_,rfl,fun h=>?_,fun h=>?_⟩
   .have al:k<f.blocks.length:=by simpa using h
    have hx:f.blocks[k]? =some f.blocks[k]:=aL al;have qd:=hs.en _ (bR al)
    have C:nD f k=(!decide ((200:Int)<f.blocks[k].ins.length)&&((List.range f.blocks[k].ins.length).all (qH f k f.blocks[k].ins)&&(fc f f.blocks[k].fin&& !(f.blocks[k].fin.kind==7&&(iR f.blocks k).any (·==f.blocks[k].fin.a))))):=by
     unfold nD;simp only[getD_some hx]
    have mj:nD f k=false->(List.range f.blocks.length).all (nD f)=false:=fun hq=>kT al hq;have BJ:=SQ (R:=f.ag.length) hx;have tV:=fun(i:Nat)=>RU (R:=f.ag.length) (i:=i) hx;have hA:=uA k al;have oE:∀ {y:bd},PCall prog 171 [.agg (bq f (bC L)),.agg (a8 y),I k] (B (dd f k (iY f.blocks f.blocks.length k).length y)):=fun {y}=>oE hA eg sZ BI;have J:∀ j,qH f k f.blocks[k].ins j=(dd f k (iY f.blocks f.blocks.length k).length (f.blocks[k].ins.getD j dc)&& !(bG (f.blocks[k].ins.getD j dc)&&(decide (0<j)&& !bG (f.blocks[k].ins.getD (j - 1) dc)))):=fun j=>rfl;generalize iY f.blocks f.blocks.length k=A at oE J hA;generalize f.blocks[k]=x at hx qd C BJ tV J;have Ba:=Ba (f:=f) (uQ L) rfl qd.1 qd.2 hN;refine ws ?_;refine dF ?_;refine ab (aB (aj ?_));refine ap ?_;refine ab (cy rfl (fun hp=>?_) fun hp=>cu (aB (au ?_)))
    .refine aB (aj ?_);refine SS ?_;refine ab (di (cq (aO (aq (d:=B false) rfl ?_))));rw[mj (by rw[C,hp];rfl)]
    rw[hp,Bool.not_false,Bool.true_and] at C;have nF:x.ins.length<=200:=by have:=of_decide_eq_false hp;omega
    refine SS ?_
    refine ab (bZ (fun s=>Ghost prog s ⟨ax [(1,.pt (ay f)),(4,.pt (bq f (bC L))),(9,.rs 2 0 f.ag.length),(10,I k)],bc [(2,.cells ((jr f.ag.length f.blocks k).map B) 4)],N⟩/\(List.range x.ins.length).all (qH f k x.ins)=true) (cP (α:=Nat) (fun j=>⟨ax [(1,.pt (ay f)),(4,.pt (bq f (bC L))),(9,.rs 2 0 f.ag.length),(10,I k),(11,fu x.ins),(12,I j)],bc [(2,.cells ((jr f.ag.length f.blocks k).map B) 4)],N⟩)
     (fun j=>j<=x.ins.length/\(List.range j).all (qH f k x.ins)=true) (fun j=>x.ins.length - j) 0 (aH eH eH) ⟨Nat.zero_le _,rfl⟩ ?_) ?_)
    .rintro j ⟨hj,ql⟩;refine aN ?_;refine ab ⟨_,rfl,fun h=>?_,fun h=>?_⟩
     .have cI:j<x.ins.length:=by simpa using h
      have hy:x.ins[j]? =some x.ins[j]:=aL cI;have J:=J j;rw[getD_some hy] at J;have X:qH f k x.ins j=false->(List.range f.blocks.length).all (nD f)=false:=fun hq=>mj (by rw[C,kT cI hq];rfl);have U:qH f k x.ins j=true->(List.range (j+1)).all (qH f k x.ins)=true:=fun hq=>iN ql hq;generalize x.ins[j]=y at hy J;have oE:= @oE y;generalize dd f k A.length y=v at oE J;rw[J] at X U;clear J;refine dz Pz ?_;cases v with
      |false=>
       refine bF ?_;refine cl oE ?_;refine aQ ?_;refine dF ?_;(iterate 5 refine z fun _ _=>?_);refine SS ?_;refine bf bg (an rfl (fun hp=>?_) fun hp=>(by cases hp));refine ws ?_;refine SS ?_;refine ab (aU (cq (aO (cq (aO (aq (d:=B false) rfl ?_))))));rw[X rfl]
      |true=>
       rw[Bool.true_and] at X U;by_cases dP:y.op=19
       .have o5:bG y=true:=by simp[bG,dP]
        rw[o5,Bool.true_and] at X U;have fE:(y.op==19)=true:=by simp[dP]
        cases j with
        |zero=>
         have qM:decide ((0:Int)<((0:Nat):Int))=false:=rfl;refine bF ?_;refine cl oE ?_;refine aQ ?_;refine aN ?_;(iterate 7 refine z fun _ _=>?_);refine af ?_;refine bf bg (an rfl (fun hp=>(by cases hp)) fun hp=>cD ?_);refine ap ?_;refine ab (aP 1 (aH eH eH) ⟨oG,U rfl⟩ oG)
        |succ i=>
         have qM:decide ((0:Int)<((i+1:Nat):Int))=true:=decide_eq_true oG;have ow:((i+1:Nat):Int) - 1=(i:Int)/\ -9223372036854775808<=(i:Int)/\(i:Int)<=9223372036854775807:=by omega
         have hz:x.ins[i]? =some x.ins[i]:=aL oG;rw[show i+1 - 1=i from rfl,getD_some hz] at X U;generalize x.ins[i]=z at hz X U;refine bF ?_;refine cl oE ?_;refine aQ ?_;refine aQ ?_;refine aN ?_;refine bf bg (an rfl (fun hp=>?_) fun hp=>?_)
         .refine ws ?_;refine SS ?_;refine ab (aU (cq (aO (cq (aO (aq (d:=B false) rfl ?_))))));rw[X (by revert hp;simp[bG])]
         .refine cD ?_;refine ap ?_;refine ab (aP (i+1+1) (aH eH eH) ⟨oG,U (by revert hp;simp[bG])⟩ oG)
       .have o5:bG y=false:=by simp[bG,dP]
        rw[o5,Bool.false_and] at X U;have fE:(y.op==19)=false:=by simp[dP]
        refine bF ?_;refine cl oE ?_;refine aQ ?_;refine dF ?_;(iterate 4 refine z fun _ _=>?_);refine af ?_;refine bf bg (an rfl (fun hp=>(by cases hp)) fun hp=>cD ?_);refine ap ?_;refine ab (aP (j+1) (aH eH eH) ⟨oG,U rfl⟩ oG)
     .have a9:¬ j<x.ins.length:=by simpa using h
      have:j=x.ins.length:=by omega
      subst this;exact⟨aH eH eH,ql⟩
    rintro s ⟨hg,J⟩;rw[J,Bool.true_and] at C;refine⟨_,hg,au ?_⟩;clear hg oE J hA;obtain⟨acd,xk,xa,xb,xt,xe,xn,F4,xs,xw,xo⟩:=x;dsimp only at*
    refine dF ?_;refine cE (fR (cs':=aW _) rfl rfl (up_same _ _ _) rfl) ak (dx V.h V.h (by first|(simp;done)|exact⟨rfl,bn rfl⟩|(simp;omega)) (by rfl)) ?_;refine ab (aJ (mU (i:=N) (l:=[(1,.pt (ay f)),(4,.pt (bq f (bC L))),(9,.rs 2 0 f.ag.length),(10,I k),(13,.pt (aW ⟨xk,xa,xb,xt,xe,xn,F4,xs,xw,xo⟩))]) (ml:=[(2,.cells ((jr f.ag.length f.blocks k).map B) 4)]) (up_same _ _ _) ⟨rfl,rfl,uR oG,rfl,jl,trivial⟩ ⟨Dg oG (aw oG (aw oG rfl)) .map,trivial⟩) (aj ?_));have bB:= @Dm f ⟨xk,xa,xb,xt,xe,xn,F4,xs,xw,xo⟩;generalize fc f ⟨xk,xa,xb,xt,xe,xn,F4,xs,xw,xo⟩=v at Ba C bB;refine af ?_;refine cl Ba ?_;refine SS ?_;refine ab (aB (aj ?_));refine af ?_;refine ab (cy rfl (fun hp=>?_) fun hp=>cu (aj ?_))
    .refine aB (aj ?_);refine SS ?_;refine ab (di (cq (aO (aq (d:=B false) rfl ?_))));rw[mj (by rw[C];revert hp;cases v<;>simp)]
    have hv:v=true:=by simpa using hp
    subst hv;rw[Bool.true_and] at C;refine ap ?_;refine ab (an rfl (fun h7=>?_) fun h7=>cD ?_)
    .have e7:xk=7:=by simpa using h7
     obtain⟨i,hi,e⟩:=(bB rfl).2.2 e7;dsimp only at e;subst e;have tV:=tV i e7 rfl;have qZ:(jr f.ag.length f.blocks k)[i]? =some ((iR f.blocks k).any (·==(i:Int))):=z1 hi;have oI:=wK f.ag.length f.blocks k;rw[e7] at C;generalize (iR f.blocks k).any (·==(i:Int))=o at qZ C;generalize jr f.ag.length f.blocks k=O at qZ oI tV ⊢;have kd:=fZ (f:=B) qZ;refine aB (aj ?_);refine aR ?_;refine ab (cy rfl (fun hp=>?_) fun hp=>cu ?_)
     .refine aB (aj ?_);refine SS ?_;refine ab (di (cq (aO (aq (d:=B false) rfl ?_))));rw[mj (by rw[C,hp];rfl)]
     .refine fJ ?_;refine aR ?_;refine ab ?_;refine ap ?_;refine ab (aP (k+1,N+1) (aH eH ⟨?_,trivial⟩) ⟨oM,oM,iN M (by rw[C,hp];rfl)⟩ oM);dsimp only;rw[tV,List.map_set];rfl
    .have h7:¬ xk=7:=by simpa using h7
     have BJ:=BJ h7;refine ap ?_;refine ab (aP (k+1,N+1) (aH eH ⟨?_,trivial⟩) ⟨oM,oM,iN M (by rw[C];simp[h7])⟩ oM);dsimp only;rw[BJ];rfl
   .have a9:¬ k<f.blocks.length:=by simpa using h
    have:k=f.blocks.length:=by omega
    subst this;exact⟨N,eR (l:=[]) trivial,M⟩
  .rintro s ⟨N,hg,M⟩;refine⟨_,hg,aj ?_⟩;refine SS ?_;refine ab (aq (d:=B true) rfl ?_);rw[M]
theorem vL{a b:Cert}(hl:a.is.length=b.is.length)(hm:a.is.length<=100000):PCall prog 173 [.agg (bQ a),.agg (bQ b)] (.agg (bQ (l5 a b))):=by
 refine a7 Wm (.cons (.agg (pJ a)) (.cons (.agg (pJ b)) .nil)) (.agg (pJ _)) ?_;rw[Wn];obtain⟨aa,C⟩:=a;obtain⟨ba,J⟩:=b;dsimp only at hl hm;refine au ?_;refine ap ?_;refine ab (aJ (aH (l:=[(2,.rp 0 0),(3,.rp 1 0),(4,.rp 2 0)]) (ml:=[(0,.cells (bQ ⟨aa,C⟩) 158),(1,.cells (bQ ⟨ba,J⟩) 158),(2,.cells [B false,.z] 158)]) eH eH) (aB (aj ?_)));refine af ?_;cases aa with
 |true=>
  refine ab (np ?_);refine aB (aj ?_);refine af ?_;exact ab (di (jL (ke rfl rfl oD jx rfl t158 (bn rfl)) rfl))
 |false=>
 refine ab (oc (cu (aB (aj ?_))));refine af ?_;cases ba with
 |true=>
  refine ab (np ?_);refine aB (aj ?_);refine af ?_;exact ab (di (jL (ke rfl rfl oD jx rfl t158 (bn rfl)) rfl))
 |false=>
 refine ab (oc (cu (au ?_)));have hb:l5 ⟨false,C⟩ ⟨false,J⟩=⟨false,List.zipWith (fun x y=>x&&y) C J⟩:=rfl;rw[hb];clear hb;have ia:({ any:=false,is:=C }:Cert).is.length<=100000:=hm;have du:((C.length:Nat):Int).toNat=C.length:=dg _;have U:(List.zipWith (fun x y=>x&&y) C J).length=C.length:=by simp;omega
 have X:∀ (k:Nat) x y,C[k]? =some x->J[k]? =some y->(List.zipWith (fun x y=>x&&y) C J)[k]? =some (x&&y):=fun k x y h1 h2=>by rw[List.getElem?_zipWith,h1,h2]
 generalize List.zipWith (fun x y=>x&&y) C J=zQ at U X;refine dF ?_;refine ab (aJ (aH (l:=[(2,.rp 0 0),(3,.rp 1 0),(4,.rp 2 0),(5,.rp 4 0)]) (ml:=[(0,.cells (bQ ⟨false,C⟩) 158),(1,.cells (bQ ⟨false,J⟩) 158),(2,.cells [B false,.z] 158),(3,.cells ((List.replicate C.length false).map B) 4),(4,.cells [B false,.rs 3 0 C.length] 158)]) eH ⟨rfl,rfl,rfl,?_,?_,trivial⟩) (aB (au ?_)))
 .exact congrArg (fun c=>some (Row.cells c 4)) ((congrArg (fun k=>replD k [B false]) du).trans (qu _ false))
 .exact congrArg (fun k=>some (Row.cells [B false,.rs 3 0 k] 158)) du
 refine SS ?_
 refine ab (bZ (fun s=>Ghost prog s ⟨ax [(4,.rp 2 0),(5,.rp 4 0)],bc [(2,.cells [B false,.z] 158),(3,.cells (zQ.map B) 4),(4,.cells [B false,.rs 3 0 C.length] 158)],5⟩) (cP (α:=Nat) (fun k=>⟨ax [(2,.rp 0 0),(3,.rp 1 0),(4,.rp 2 0),(5,.rp 4 0),(6,I k)],bc [(0,.cells (bQ ⟨false,C⟩) 158),(1,.cells (bQ ⟨false,J⟩) 158),(2,.cells [B false,.z] 158),(3,.cells ((zQ.take k++List.replicate (C.length - k) false).map B) 4),(4,.cells [B false,.rs 3 0 C.length] 158)],5⟩)
  (fun k=>k<=C.length) (fun k=>C.length - k) 0 (aH eH eH) oG ?_) ?_)
 .intro k hk;refine aR ?_;refine ab ⟨_,rfl,fun h=>?_,fun h=>?_⟩
  .have al:k<C.length:=by simpa using h
   have hx:C[k]? =some C[k]:=aL al;have hy:J[k]? =some J[k]:=aL oG;have M:=X k _ _ hx hy;generalize C[k]=x at hx M;generalize J[k]=y at hy M;have pZ:=take_set M U;have lA:(zQ.take k++List.replicate (C.length - k) false).length=C.length:=by simp;omega
   refine kX QK ?_;cases x with
   |false=>
    refine aQ ?_;(iterate 5 refine z fun _ _=>?_);refine ap ?_;refine bf bg ?_;refine ap ?_;refine ab (aP (k+1) (aH eH ⟨rfl,rfl,rfl,?_,rfl,trivial⟩) oG oG);rw[<- pZ,List.map_set];rfl
   |true=>
    refine aQ ?_;refine bH ?_;refine bf bg ?_;refine ap ?_;refine ab (aP (k+1) (aH eH ⟨rfl,rfl,rfl,?_,rfl,trivial⟩) oG oG);rw[<- pZ,List.map_set];rfl
  .have a9:¬ k<C.length:=by simpa using h
   have:k=C.length:=by omega
   subst this;refine aH eH ⟨rfl,?_,rfl,trivial⟩;rw[Nat.sub_self,List.replicate_zero,List.append_nil,cL oG];rfl
 .intro s hg;refine⟨_,hg,au ?_⟩;refine af ?_
  have e:sub (fz0 3 (zQ.map B) (prog.cellsOf 4)) (.rs 3 0 C.length)=.sl (zQ.map B) C.length:=by
   rw[c4,vp,List.drop_zero,cL oP]
  refine ab (aJ (bj [(3,zQ.map B,4),(2,[B false,.sl (zQ.map B) C.length],158)] ⟨rfl,?_,trivial⟩ (l:=[(4,.pt [B false,.sl (zQ.map B) C.length])]) eH) (aU (jL (Iw rfl oD jx rfl t158 (bn rfl)) ?_)))
  .exact congrArg (fun d=>some (Row.cells [B false,d] 158)) e
  .rw[<- U];rfl
theorem qW{f:aA}{b:Nat}{x:Argus.bu}{c:Cert}(hx:f.blocks[b]? =some x)(hl:c.is.length=f.ag.length+f.aK.length)(hm:c.is.length<=2000)(hi:∀ y∈x.ins,tW f.ag.length (f.ag.length+f.aK.length) y)(Oa:x.ins.length<=100000):
 PCall prog 127 [.agg (ay f),I b,.agg (bQ c)] (.agg (bQ (dN f.ag.length x.ins c))):=by
 have gR:∀ {d:Cert} {r:Int},d.is.length=f.ag.length+f.aK.length->yB (f.ag.length+f.aK.length) r->PCall prog 124 [.agg (bQ d),I r] (.agg (bQ (gz d r))):=fun {d r} h1 h2=>gR oG (by rw[h1];exact h2);refine a7 Wo (.cons (.agg (fq f)) (.cons (.s _) (.cons (.agg (pJ c)) .nil))) (.agg (pJ _)) ?_;rw[Wp];refine au ?_;refine ap ?_;refine ab (aJ (aH (l:=[(1,I b),(3,.rp 0 0),(5,.rp 1 0),(6,.rp 2 0)]) (ml:=[(0,.cells (ay f) 26),(1,.cells (bQ c) 158),(2,.cells [B false,.z] 158)]) eH eH) (aj ?_));refine dF ?_;refine ab (aB (au ?_));refine SS ?_
 refine ab (bZ (fun s=>Ghost prog s ⟨ax [(5,.rp 1 0),(6,.rp 2 0)],bc [(1,.cells (bQ (dN f.ag.length x.ins c)) 158),(2,.cells [B false,.z] 158)],3⟩) (cP (α:=Nat) (fun k=>⟨ax [(3,.rp 0 0),(5,.rp 1 0),(6,.rp 2 0),(7,fu x.ins),(8,I k)],bc [(0,.cells (ay f) 26),(1,.cells (bQ (dN f.ag.length (x.ins.take k) c)) 158),(2,.cells [B false,.z] 158)],3⟩)
  (fun k=>k<=x.ins.length) (fun k=>x.ins.length - k) 0 (aH eH eH) oG ?_) ?_)
 .intro k hk;have C:∀ y,x.ins[k]? =some y->dN f.ag.length (x.ins.take (k+1)) c=qV f.ag.length (dN f.ag.length (x.ins.take k) c) y:=fun y hy=>lL hy;have fC:k=x.ins.length->dN f.ag.length (x.ins.take k) c=dN f.ag.length x.ins c:=fun e=>by rw[e,List.take_length]
  have X:=(wI f.ag.length (x.ins.take k) c).trans hl;generalize dN f.ag.length (x.ins.take k) c=d at C fC X;refine aN ?_;refine ab ⟨_,rfl,fun h=>?_,fun h=>?_⟩
  .have al:k<x.ins.length:=by simpa using h
   have hy:x.ins[k]? =some x.ins[k]:=aL al;have C:=C _ hy;have M:=hi _ (bR al);generalize x.ins[k]=y at hy C M;have nC:=nC (x:=y)
   have hp:yB (f.ag.length+f.aK.length) (cN y):=by
    rcases M.w with e|⟨i,h1,h2⟩
    .exact .inl e
    .exact .inr ⟨i,oG,h2⟩
   have U:=gR X hp;have sW:=(zL d (cN y)).trans X
   have kv:y.op=18->PCall prog 124 [.agg (bQ (gz d (cN y))),I ((f.ag.length:Int)+y.n)] (.agg (bQ (gz (gz d (cN y)) ((f.ag.length:Int)+y.n)))):=fun e=>gR sW (by
    obtain⟨i,h1,h2⟩:=M.s e
    exact .inr ⟨f.ag.length+i,h1,by rw[h2];omega⟩)
   unfold qV at C;generalize gz d (cN y)=d1 at U sW kv C;generalize cN y=w at nC U;clear gR;have gR:=U;refine dz QL ?_;refine aR ?_;refine cl nC ?_;refine cl gR ?_;refine SS ?_;refine bf bg (aj ?_);refine bF ?_;refine ab (an rfl (fun J=>?_) fun J=>?_)
   .have J:y.op=18:=by simpa using J
    rw[if_pos J] at C;have gR:=kv J;obtain⟨i,h1,h2⟩:=M.s J;have mE:0<=y.n/\y.n<=2000:=by omega
    refine kX QM ?_;refine bH ?_;refine af ?_;refine cl gR ?_;refine SS ?_;refine bf bg ?_;refine ap ?_;refine ab (aP (k+1) (aH eH ⟨rfl,?_,rfl,trivial⟩) oG oG);rw[C];rfl
   .have J:¬ y.op=18:=by simpa using J
    rw[if_neg J] at C;refine cD ?_;refine ap ?_;refine ab (aP (k+1) (aH eH ⟨rfl,?_,rfl,trivial⟩) oG oG);rw[C];rfl
  .have a9:¬ k<x.ins.length:=by simpa using h
   rw[<- fC oG];exact aH eH eH
 .intro s hg;refine⟨_,hg,aj ?_⟩;generalize dN f.ag.length x.ins c=d;refine af ?_;exact ab (aU (jL (ke rfl rfl oD jx rfl t158 (bn rfl)) rfl))
theorem sw{f:aA}{b:Nat}{x:Argus.bu}{c:Cert}{to:Int}(hx:f.blocks[b]? =some x)(hw:x.fin.az.length<=100)(hm:c.is.length<=2000)(X:yB c.is.length (dw x.fin)):
 PCall prog 126 [.agg (ay f),I b,I to,.agg (bQ c)] (.agg (bQ (jV x.fin to c))):=by
 have gR:=gR (c:=c) oG X;have nB:=nB (x:=x.fin) oG;have A9:=A9 (x:=x.fin);have J:=wF x.fin;refine a7 Wq (.cons (.agg (fq f)) (.cons (.s _) (.cons (.s _) (.cons (.agg (pJ c)) .nil)))) (.agg (pJ _)) ?_;rw[Wr];refine ws ?_;refine ap ?_;refine ab (au ?_);refine dF ?_;refine cE (fR (cs':=aW _) rfl rfl rfl rfl) ak (dx V.h V.h (by first|(simp;done)|exact⟨rfl,bn rfl⟩|(simp;omega)) (by rfl)) ?_;refine ab (aJ (aH (l:=[(2,I to),(7,.rp 1 0),(8,.rp 2 0),(9,.rp 3 0)]) (ml:=[(1,.cells (bQ c) 158),(2,.cells [B false,.z] 158),(3,.cells (aW x.fin) 69)]) eH eH) (aj ?_));have M:jV x.fin to c=if x.fin.to≠to\/(cX x.fin).tail.any (·==to)=true\/x.fin.kind=3\/x.fin.kind=4 then c else gz c (dw x.fin):=rfl
 rw[M];clear M;generalize cX x.fin=l at nB J;refine SS ?_;refine cl nB ?_;refine SS ?_;refine er ?_;refine SS ?_;refine ab (aB (au ?_));refine SS ?_
 refine ab (bZ (fun s=>Ghost prog s ⟨ax [(2,I to),(7,.rp 1 0),(8,.rp 2 0),(9,.rp 3 0),(11,B (l.tail.any (·==to)))],bc [(1,.cells (bQ c) 158),(2,.cells [B false,.z] 158),(3,.cells (aW x.fin) 69)],4⟩) (cP (α:=Nat) (fun k=>⟨ax [(2,I to),(7,.rp 1 0),(8,.rp 2 0),(9,.rp 3 0),(10,aC l),(11,B ((l.tail.take k).any (·==to))),(12,I ((k+1:Nat):Int))],bc [(1,.cells (bQ c) 158),(2,.cells [B false,.z] 158),(3,.cells (aW x.fin) 69)],4⟩)
  (fun k=>k<=l.tail.length) (fun k=>l.tail.length - k) 0 (aH eH eH) oG ?_) ?_)
 .intro k hk;have NB:l.tail.length=l.length - 1:=List.length_tail ..;have C:∀ y,l.tail[k]? =some y->(l.tail.take (k+1)).any (·==to)=((l.tail.take k).any (·==to)||y==to):=fun y hy=>by rw[List.take_add_one,hy,List.any_append];simp
  have U:k=l.tail.length->(l.tail.take k).any (·==to)=l.tail.any (·==to):=fun e=>by rw[e,List.take_length]
  generalize (l.tail.take k).any (·==to)=ob at C U;refine aN ?_;refine ab ⟨_,rfl,fun h=>?_,fun h=>?_⟩
  .have al:k+1<l.length:=by
    have:=of_decide_eq_true h;omega
   have hy:l[k+1]? =some l[k+1]:=aL al;have C:=C l[k+1] (by rw[List.getElem?_tail];exact hy);generalize l[k+1]=y at hy C;refine fJ ?_;cases ob with
   |false=>
    refine bH ?_;refine af ?_;refine ab ?_;refine ap ?_;refine ab (aP (k+1) (aH ⟨rfl,rfl,rfl,rfl,rfl,?_,rfl,trivial⟩ eH) oG oG);rw[C];rfl
   |true=>
    refine af ?_;(iterate 6 refine z fun _ _=>?_);refine af ?_;refine ab ?_;refine ap ?_;refine ab (aP (k+1) (aH ⟨rfl,rfl,rfl,rfl,rfl,?_,rfl,trivial⟩ eH) oG oG);rw[C];rfl
  .have a9:¬ k+1<l.length:=fun hh=>by
    have:=of_decide_eq_false h;omega
   rw[<- U oG];exact aH eH eH
 .intro s hg;refine⟨_,hg,aB (aj ?_)⟩;generalize l.tail.any (·==to)=ob;refine aQ ?_;refine bH ?_;refine ab (cy rfl (fun h=>?_) fun h=>cu (dz PC ?_))
  .refine aB (aj ?_);refine af ?_;refine ab (di (jL (ke rfl rfl oD jx rfl t158 (bn rfl)) ?_));rw[if_pos]
   .rfl
   .revert h;simp;grind
  .rw[if_neg (by revert h;simp;grind)];generalize gz c (dw x.fin)=d at gR;generalize dw x.fin=w at gR A9;refine af ?_;refine cl A9 ?_;refine cl gR ?_;refine SS ?_;exact bf bg (aU (jL (ke rfl rfl oD jx rfl t158 (bn rfl)) rfl))
end Go.Proofs.Tryz.K
end
