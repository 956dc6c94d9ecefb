/- Part 23. -/
import Derived.Test.YtkogeiacmmckkaaGreatDoorFlowNames22
set_option linter.all false
set_option maxHeartbeats 0
set_option maxRecDepth 10000
section
open Go Go.Proofs List
namespace Go.Abs
open Go.Proofs.Tryz
section
def Grow(m:Mem)(lo hi:Nat)(x:D)(n:Nat)(cs:List D)(e:TypeId):Prop:=(n=0/\cs=[]/\x=.z)\/∃ r,lo<=r/\r<hi/\x=.rs r 0 n/\m r=some (.cells cs e)
variable{m:Mem}{x:D}{n:Nat}{cs:List D}{e:TypeId}
def Grow.mono{m':Mem}{lo hi C:Nat}(h:Grow m lo hi x n cs e)(hm:∀ j,lo<=j->j<hi->m' j=m j)(hh:hi<=C):Grow m' lo C x n cs e:=by
 rcases h with h|⟨r,h1,h2,J,O⟩
 .exact .inl h
 .exact .inr ⟨r,h1,oG,J,by rw[hm r h1 h2,O]⟩
def Grow.qJ{lo hi C i sz:Nat}{cs cs':List D}(h:Grow m lo hi x n cs e)(U:hi<=i)(hh:hi<=C)(hr:nL (λk=>k=i) (.cells cs e)):Grow (ig i cs' sz m) lo C x n cs e:=by
 rcases h with h|⟨r,h1,h2,J,O⟩
 .exact .inl h
 .exact .inr ⟨r,h1,oG,J,kx O oG hr⟩
def Grow.ala{lo hi i:Nat}(h:Grow m lo hi x n cs e)(C:hi<=i):jw (λk=>k=i) x:=by
 rcases h with⟨_,_,rfl⟩|⟨r,h1,h2,rfl,J⟩
 .exact .z
 .exact .rs oG
variable{X:Nat->Prop}
def xz{α:Type}{f:α->List D}(h:∀ x,∀ d∈f x,jw X d)(l:List α):nL X (.cells (l.flatMap f) e):=nL.cells λd hd=>by
 let⟨x,_,hx⟩:=mem_flatMap.1 hd;exact h x d hx
variable{f:aO}
def Np{r:D}(h:jw X x)(h2:jw X r):∀ d∈headD f x r,jw X d:=λd hd=>by
 simp only[headD,mem_cons,not_mem_nil,or_false] at hd;rcases hd with rfl|rfl|rfl|rfl|rfl|rfl|rfl|rfl<;>first|exact .s _|exact .sl _ _|exact h|exact h2
def F3:∀ d∈ef,jw X d:=λd hd=>by
 simp only[ef,mem_cons,not_mem_nil,or_false] at hd;rcases hd with rfl|rfl|rfl|rfl|rfl|rfl|rfl|rfl<;>first|exact .s _|exact .z
def adb(l:List Int):nL X (.cells (l.map U8) e):=nL.cells λd hd=>by
 obtain⟨x,_,rfl⟩:=mem_map.1 hd;exact .s _
structure TB(m:Mem)(nx:Nat)(f:aO)(rs:List Int)(x:D)(bs:List bH):Prop where
 r1:m 1=some (.cells ef 26)
 r2:m 2=some (.cells (headD f x (.rs 3 0 f.ag.length)) 26)
 r3:m 3=some (.cells (rs.map U8) 5)
 lt:3<nx
 gr:Grow m 4 nx x bs.length (bs.flatMap bq) 69
variable{rs:List Int}{bs:List bH}
def TB.mono{m':Mem}{nx aw:Nat}(h:TB m nx f rs x bs)(hm:∀ j,j<nx->m' j=m j)(hn:nx<=aw):TB m' aw f rs x bs:=
 ⟨by rw[hm 1 (by have:=h.lt;omega)];exact h.r1,by rw[hm 2 (by have:=h.lt;omega)];exact h.r2,by rw[hm 3 h.lt];exact h.r3,by have:=h.lt;omega,h.gr.mono (λj _ hj=>hm j hj) hn⟩
def TB.qJ{nx aw i sz:Nat}{cs:List D}(h:TB m nx f rs x bs)(hi:nx<=i)(hn:nx<=aw):TB (ig i cs sz m) aw f rs x bs:=
 ⟨kx h.r1 (by have:=h.lt;omega) (.cells F3),kx h.r2 (by have:=h.lt;omega) (.cells (Np (h.gr.ala hi) (.rs (by have:=h.lt;omega)))),kx h.r3 (by have:=h.lt;omega) (adb _),by have:=h.lt;omega,h.gr.qJ hi hn (xz I7 _)⟩
def oX(to:List Int)(x:End):End:={ x with a:=if aC [2,7,8,9] x.kind then bf to x.a else if aC [3,6] x.kind&&decide (0<=x.a) then bf to x.a else x.a,ins:=if x.kind=5 then jg to x.ins else x.ins }
def aji{to:List Int}{x:End}(h:aC [2,7,8,9] x.kind=true):oX to x={ x with a:=bf to x.a }:=by
 have:¬ x.kind=5:=λe=>by rw[e] at h;simp[aC] at h
 rw[oX,bi h,ai this]
def ajj{to:List Int}{x:End}(h:aC [2,7,8,9] x.kind=false)(h2:aC [3,6] x.kind=true):oX to x={ x with a:=if 0<=x.a then bf to x.a else x.a }:=by
 have:¬ x.kind=5:=λe=>by rw[e] at h2;simp[aC] at h2
 rw[oX,h,h2,ai this];simp
def ajk{to:List Int}{x:End}(h:aC [2,7,8,9] x.kind=false)(h2:aC [3,6] x.kind=false):oX to x={ x with ins:=if x.kind=5 then jg to x.ins else x.ins }:=by
 rw[oX,h,h2];simp
def G5(to:List Int)(x:End):End:={ oX to x with b:=if x.kind=8 then bf to x.b else x.b,args:=x.args.map (bf to) }
def nz(to:List Int)(b:bH):bH:=⟨b.ins.map (jg to),G5 to b.fin⟩
def EO(f:aO)(to:List Int):aO:={ f with ag:=putAt to f.ag (replicate f.ag.length 0) f.ag.length,blocks:=f.blocks.map (nz to) }
structure X5(n:Nat)(x:End):Prop where
 a:aC [2,7,8,9] x.kind=true->0<=x.a/\x.a<n
 a2:aC [3,6] x.kind=true->0<=x.a->x.a<n
 b:x.kind=8->0<=x.b/\x.b<n
 ins:x.kind=5->Lf n x.ins
 args:∀ r∈x.args,0<=r/\r<n
 len:x.args.length<=100000
structure WT(f:aO)(n:Nat):Prop where
 pos:0<f.blocks.length
 l1:f.ag.length<=100000
 l4:f.blocks.length<=100000
 l5:∀ b∈f.blocks,uE b
 ins:∀ b∈f.blocks,∀ x∈b.ins,Lf n x
 ends:∀ b∈f.blocks,X5 n b.fin
def agH(n:Nat)(b:Int):dp n [U8 b]=(replicate n b).map U8:=by
 induction n with
 |zero=>rfl
 |succ n ih=>unfold dp at*;rw[replicate_succ,flatten_cons,ih];rfl
end
def SI{f:aO}{to:List Int}(rN:aE prog 17 [.agg (aG f)] (I (fL f)))(eE:to.length<=100000)(hf:fL f=0->WT f f.ag.length):aE prog 53 [.agg (aG f),av to] (.bu [.agg (if qq f to=0 then aG (EO f to) else ef),I (qq f to)]):=by
 have bB:∀ a∈(if qq f to=0 then aG (EO f to) else ef),Tr a:=by
  split
  .exact jG _
  .exact .cons (.s _) (.cons (.s _) (.cons (.s _) (.cons (.s _) (.cons .z (.cons .z (.cons .z (.cons .z .nil)))))))
 refine bN (fo f53) (.cons (.agg (jG _)) (.cons (cR _) .nil)) (.bu (.cons (.agg bB) fl)) ?_;clear bB;refine aF (az ?_);refine ab ⟨_,pf (i:=0) (cs:=aG f) (e:=26) rfl (l:=[(1,av to),(2,.pt (aG f)),(4,.rp 1 0),(5,I 0)]) eH (ml:=[(1,.cells ef 26)]) eH,aj ?_⟩;refine SS ?_;refine cl rN ?_;refine SS ?_;refine ab (aM (aj (af ?_)));by_cases hc:fL f=0
 case neg=>
  have e:qq f to=fL f:=ai hc;rw[e,ai hc];generalize fL f=c at*
  refine ab (cG rfl (λ_=>aM (aj ?_)) λh=>absurd (by simpa using h) hc);refine aX ?_;exact ab (dX (rX (fT (cs:=ef) (vs:=ef) rfl rfl a26 iS rfl t26 (aP rfl)) rfl rfl))
 have hF:=hf hc;have e:qq f to=if lX to f.ag.length f.args then 0 else 1:=bi hc
 rw[hc];rw[hc] at rN;refine ab (cG rfl (λh=>by simp at h) λ_=>dn (aj ?_));have As:=As (to:=to) (N:=f.ag.length) (fixed:=f.args) hF.l1;refine cB ?_;refine cl As ?_;refine SS ?_;refine ab (aM (aj (af ?_)));cases hp:lX to f.ag.length f.args with
 |false=>
  rw[hp] at e;rw[e];refine ab (cG rfl (λ_=>aM (aj ?_)) λh=>by simp at h);refine az ?_;exact ab (dX (rX (fT (cs:=ef) (vs:=ef) rfl rfl a26 iS rfl t26 (aP rfl)) rfl rfl))
 |true=>
 rw[hp] at e;rw[e,bi rfl,bi rfl];refine ab (cG rfl (λh=>by simp at h) λ_=>dn (aj ?_))
 have hlen:to.length=f.ag.length:=by
  rw[lX,aH] at hp;have:=hp.2;simp at this;omega
 have nZ:∀ k,k<to.length->∃ v:Nat,v<to.length/\to[k]? =some (v:Int):=λk hk=>by
  rw[lX,aH,cm] at hp;have:=hp.1 k (mem_range.2 hk);rw[px,aH,tu (aV hk),jF] at this;let⟨v,hv⟩:=fc this.1.1;exact⟨v,oG,by rw[aV hk,hv]⟩
 clear hp e hf rN As hc;have xc:=hF.l1;refine az ?_;refine er (az ?_);refine cY (zx rfl rfl V.h V.h) ak ⟨oG,rfl,oG,by rw[b5];omega,V.h⟩ (SS ?_);refine bT (dM (d:=.rs _ _ _) (cs':=_) rfl rfl rfl rfl rfl) ak (bW V.h V.h bk rfl) (ab (aM (aF (SS ?_))))
 refine ab (cJ (λs=>aL prog s ⟨ay [(1,av to),(2,.pt (aG f)),(4,.rp 1 0),(5,I 0),(8,.rp 2 0)],b8 [(1,.cells ef 26),(2,.cells (headD f (fA f.blocks) (.rs 3 0 f.ag.length)) 26),(3,.cells ((putAt to f.ag (replicate f.ag.length 0) f.ag.length).map U8) 5)],4⟩) (dS (α:=Nat)
  (λk=>⟨ay [(1,av to),(2,.pt (aG f)),(4,.rp 1 0),(5,I 0),(8,.rp 2 0),(9,I k)],b8 [(1,.cells ef 26),(2,.cells (headD f (fA f.blocks) (.rs 3 0 f.ag.length)) 26),(3,.cells ((putAt to f.ag (replicate f.ag.length 0) k).map U8) 5)],4⟩)
  (λk=>k<=f.ag.length) (λk=>f.ag.length - k) 0
  (a6 eH ⟨rfl,rfl,congrArg (λl=>some (Row.cells l 5)) (agH _ _),aa⟩) (Nat.zero_le _) ?_) ?_)
 .rintro k hk;refine bG ?_;refine ab ⟨_,rfl,λh=>?_,λh=>?_⟩
  .have al:k<f.ag.length:=by simpa using h
   clear h;let⟨v,hv,hg⟩:=nZ k oG;obtain⟨x,hx⟩:∃ x,f.ag[k]? =some x:=⟨_,aV al⟩
   have Iy:=I9 to f.ag (replicate f.ag.length 0) k;rw[tu hg,tu hx,eC] at Iy;have jn:=vD to f.ag (replicate f.ag.length 0) k;rw[length_replicate] at jn;generalize putAt to f.ag (replicate f.ag.length 0) k=q at*
   apply r8 iB;have kd:(headD f (fA f.blocks) (.rs 3 0 f.ag.length)).drop (0+4)=.rs 3 0 f.ag.length::[cH f.aU,io f.signals,fA f.blocks]:=rfl;refine bg ?_;refine az ?_;refine bT (dM (d:=.s (.int _ _)) (cs':=(q.set v x).map U8) rfl rfl rfl rfl (by rw[map_set])) aB (bW t5 c5 ⟨rfl,by simp;omega⟩ rfl) (bU bX ?_);show aJ _ _ _ _ _ _ _ _ _;refine az ?_;exact ab (bA (k+1) (a6 eH ⟨rfl,rfl,by rw[Iy];rfl,aa⟩) oG oG)
  .have bJ:¬ k<f.ag.length:=by simpa using h
   have:k=f.ag.length:=by omega
   subst this;exact a6 eH eH
 rintro s J;refine⟨_,J,aj ?_⟩;clear J nZ;have qE:=vD to f.ag (replicate f.ag.length 0) f.ag.length;rw[length_replicate] at qE;unfold EO;generalize putAt to f.ag (replicate f.ag.length 0) f.ag.length=rs at*
 have hl4:=hF.l4;refine SS ?_;refine bT (dM (d:=.z) (cs':=headD f .z (.rs 3 0 f.ag.length)) rfl rfl rfl rfl rfl) aB (bW t24 CO ⟨rfl,aP rfl⟩ rfl) (ab (aM (aF (SS ?_))))
 refine ab (cJ (λs=>∃ x m nx,TB m nx f rs x (f.blocks.map (nz to))/\aL prog s ⟨ay [(4,.rp 1 0),(5,I 0),(8,.rp 2 0)],m,nx⟩) (dS (α:=Nat×D×Mem×Nat)
  (λs=>⟨ay [(1,av to),(2,.pt (aG f)),(4,.rp 1 0),(5,I 0),(8,.rp 2 0),(10,I s.1)],s.2.2.1,s.2.2.2⟩)
  (λs=>s.1<=f.blocks.length/\TB s.2.2.1 s.2.2.2 f rs s.2.1 ((f.blocks.take s.1).map (nz to))) (λs=>f.blocks.length - s.1) (0,.z,_,_)
  (ao eH) ⟨Nat.zero_le _,rfl,rfl,rfl,oM,.inl ⟨rfl,rfl,rfl⟩⟩ ?_) ?_)
 .rintro⟨k,x7,m,nx⟩ ⟨hk,C⟩;dsimp only at hk C ⊢;refine bG ?_;refine ab ⟨_,rfl,λh=>?_,λh=>?_⟩
  .have al:k<f.blocks.length:=by simpa using h
   clear h;obtain⟨b,hb⟩:∃ b,f.blocks[k]? =some b:=⟨_,aV al⟩
   have lb:=cL hb;have hI:=hF.ins b lb;have hE:=hF.ends b lb;have hS:=hF.l5 b lb;rw[<- hlen] at hI hE
   have gi:(f.blocks.take (k+1)).map (nz to)=(f.blocks.take k).map (nz to)++[nz to b]:=by
    rw[take_add_one,hb,map_append];rfl
   have jo:((f.blocks.take k).map (nz to)).length=k:=by simp;omega
   generalize (f.blocks.take k).map (nz to)=bs at*
   have oW:∀ {r:Int},0<=r/\r<to.length->∃ k:Nat,∃ v,r=k/\to[k]? =some v/\bf to r=v:=λ{r} h=>by
    obtain⟨k,rfl⟩:=fc h.1;exact⟨k,_,rfl,aV oG,by simp[bf,dF,aV (show k<to.length by omega)]⟩
   have pL:=hS.ins;refine aF (SS ?_);refine ab ⟨_,.mz _ _ _ 11 45 rfl,aM (aF ?_)⟩;refine SS ?_;have eh:=C.lt
   refine ab (cJ (λs=>∃ r m' aw,TB m' nx f rs x7 bs/\nx<=r/\r<aw/\m' r=some (.cells ((b.ins.map (jg to)).flatMap aI) 45)/\aL prog s ⟨ay [(1,av to),(2,.pt (aG f)),(4,.rp 1 0),(5,I 0),(8,.rp 2 0),(10,I k),(11,.rs r 0 b.ins.length)],m',aw⟩) (dS (α:=Nat×Nat×Mem×Nat)
    (λs=>⟨ay [(1,av to),(2,.pt (aG f)),(4,.rp 1 0),(5,I 0),(8,.rp 2 0),(10,I k),(11,.rs s.2.1 0 s.1),(12,I s.1)],s.2.2.1,s.2.2.2⟩)
    (λs=>s.1<=b.ins.length/\TB s.2.2.1 nx f rs x7 bs/\nx<=s.2.1/\s.2.1<s.2.2.2/\s.2.2.1 s.2.1=some (.cells (((b.ins.take s.1).map (jg to)).flatMap aI) 45)) (λs=>b.ins.length - s.1) (0,nx,_,_)
    (ao eH) ⟨Nat.zero_le _,C.mono (λj hj=>aW _ _ oG) (bK _),bK _,Nat.lt_succ_self _,ap _ _ _⟩ ?_) ?_)
   .rintro⟨j,r,m',aw⟩ ⟨hj,FF,pN,tQ,O⟩;dsimp only at hj FF pN tQ O ⊢;refine bg ?_;refine ab ⟨_,rfl,λh=>?_,λh=>?_⟩
    .have dx:j<b.ins.length:=by simpa using h
     clear h;obtain⟨y,hy⟩:∃ y,b.ins[j]? =some y:=⟨_,aV dx⟩
     have EN:=EN (hI y (cL hy))
     have aoO:((b.ins.take (j+1)).map (jg to)).flatMap aI=((b.ins.take j).map (jg to)).flatMap aI++aI (jg to y):=by
      rw[take_add_one,hy,map_append,flatMap_append];simp
     have aoP:(((b.ins.take j).map (jg to)).flatMap aI).length=j*6:=by
      rw[pd (sz:=6) (λ_=>rfl),length_map,length_take];congr 1;omega
     generalize ((b.ins.take j).map (jg to)).flatMap aI=ds at*
     refine gE (bg ?_);refine af ?_;refine cl EN ?_;refine SS ?_;refine gf (fW rfl (aq oG O) rfl Mp kG (gV s3 rfl) rfl) aB ⟨LF,rfl,aP rfl,oC,by rw[aoP];omega,by unfold maxLen;omega,by rw[Mq];omega,by simp;omega⟩ (SS ?_);refine ab (az ?_);refine ab (bA (j+1,aw+1,_,_) (ao eH) ⟨oM,FF.mono (λi hi=>(aW _ _ oG).trans ((aW _ _ oG).trans (aW _ _ oG))) (bK _),oM,Nat.lt_succ_self _,?_⟩ oM);dsimp only;rw[aoO];exact ap _ _ _
    .have bJ:¬ j<b.ins.length:=by simpa using h
     have:j=b.ins.length:=by omega
     subst this;rw[take_length] at O;exact⟨r,m',aw,FF,pN,tQ,O,ao eH⟩
   rintro s ⟨r,m',aw,FF,pN,tQ,O,J⟩
   have aam:sub (cZ r ((b.ins.map (jg to)).flatMap aI) (prog.cellsOf 45)) (.rs r 0 b.ins.length)=eV (b.ins.map (jg to)):=by
    rw[oI,kG,drop_zero,s9 (f:=aI) (sz:=6) (λ_=>rfl),cW oS];show D.sl _ _=D.sl _ (b.ins.map (jg to)).length;rw[length_map]
   have htb:nz to b=⟨b.ins.map (jg to),G5 to b.fin⟩:=rfl;rw[htb] at gi;have hT3:=FF.qJ (sz:=prog.cellsOf 45) (cs:=(b.ins.map (jg to)).flatMap aI) pN (bK _);refine⟨_,J.trans (pR (l:=[(1,av to),(2,.pt (aG f)),(4,.rp 1 0),(5,I 0),(8,.rp 2 0),(10,I k),(11,eV (b.ins.map (jg to)))]) O ⟨rfl,rfl,gk oG,rfl,gk oG,rfl,aam,aa⟩),?_⟩;clear J aam O FF C htb;generalize ig r ((b.ins.map (jg to)).flatMap aI) (prog.cellsOf 45) m'=m1 at*
   generalize b.ins.map (jg to)=il at*
   refine cI (λs=>∃ M,TB M nx f rs x7 bs/\M aw=some (.cells (aR b.fin) 48)/\aL prog s ⟨ay [(1,av to),(2,.pt (aG f)),(4,.rp 1 0),(5,I 0),(8,.rp 2 0),(10,I k),(11,eV il),(13,.rp aw 0)],M,aw+1⟩) (eI ?_) ?_
   .refine eD ?_;exact bT (eK (cs':=aR b.fin) rfl rfl s3 rfl) aB (bW t48 rP ⟨rfl,aP rfl⟩ rfl) (ab ⟨_,hT3.mono (λi hi=>(aW _ _ oG).trans (aW _ _ oG)) (bK _),ap _ _ _,ao eH⟩)
   clear hT3;rintro s ⟨M,C,an,J⟩;refine⟨_,J,?_⟩;clear J;have uF:=uF (l:=b.fin.args) (to:=to) hS.ea hE.args;refine cI (λs=>∃ M,TB M nx f rs x7 bs/\M aw=some (.cells (aR (oX to b.fin)) 48)/\aL prog s ⟨ay [(1,av to),(2,.pt (aG f)),(4,.rp 1 0),(5,I 0),(8,.rp 2 0),(10,I k),(11,eV il),(13,.rp aw 0)],M,aw+1⟩) (aj ?_) ?_
   .generalize b.fin=x at*
    have kd:(aR x).drop (0+0)=U8 x.kind::(aR x).drop 1:=rfl;refine af ?_;refine ab (qQ ?_);clear kd;refine cI (λs=>aL prog s ⟨ay [(1,av to),(2,.pt (aG f)),(4,.rp 1 0),(5,I 0),(8,.rp 2 0),(10,I k),(11,eV il),(13,.rp aw 0),(95,U8 x.kind),(96,B (aC [2,7,8,9] x.kind))],M,aw+1⟩) (aj ?_) λs hg=>⟨_,hg,?_⟩
    .refine af ?_;refine ab (au rfl (λh=>bd ?_) λe1=>aj ?_)
     .have h:x.kind=2:=by simpa using h
      refine ao ⟨rfl,rfl,rfl,rfl,rfl,rfl,rfl,rfl,rfl,?_,aa⟩;show D.s (.bool (x.kind==2))=_;rw[h];rfl
     refine af ?_;refine ab (au rfl (λh=>bd ?_) λe2=>aj ?_)
     .have h:x.kind=7:=by simpa using h
      refine ao ⟨rfl,rfl,rfl,rfl,rfl,rfl,rfl,rfl,rfl,?_,aa⟩;show D.s (.bool (x.kind==7))=_;rw[h];rfl
     refine af ?_;refine ab (au rfl (λh=>bd ?_) λe3=>eI ?_)
     .have h:x.kind=8:=by simpa using h
      refine ao ⟨rfl,rfl,rfl,rfl,rfl,rfl,rfl,rfl,rfl,?_,aa⟩;show D.s (.bool (x.kind==8))=_;rw[h];rfl
     refine af ?_;refine ab (ao ⟨rfl,rfl,rfl,rfl,rfl,rfl,rfl,rfl,rfl,?_,aa⟩);show D.s (.bool (x.kind==9))=_;simp only[aC,any_cons,any_nil,e1,e2,e3,Bool.false_or,Bool.or_false]
    clear hg;refine au rfl (λvj=>lS ?_) λvj=>?_
    .let⟨kk,v,ha,hv,e⟩:=oW (hE.a vj);have kd:(aR x).drop (0+1)=I kk::(aR x).drop 2:=by rw[<- ha];rfl
     refine cB ?_;exact bT (dM (d:=.s (.int _ _)) (cs':=aR (oX to x)) rfl rfl an rfl (by rw[aji vj,e];rfl)) aB (bW t3 c3 ⟨rfl,aP rfl⟩ rfl) (ab ⟨_,C.mono (λi hi=>aW _ _ oG) (bK _),ap _ _ _,ao eH⟩)
    refine cI (λs=>aL prog s ⟨ay [(1,av to),(2,.pt (aG f)),(4,.rp 1 0),(5,I 0),(8,.rp 2 0),(10,I k),(11,eV il),(13,.rp aw 0),(95,U8 x.kind),(107,B (aC [3,6] x.kind))],M,aw+1⟩) (aj ?_) λs hg=>⟨_,hg,?_⟩
    .refine af ?_;refine ab (au rfl (λh=>bd ?_) λe1=>eI ?_)
     .have h:x.kind=3:=by simpa using h
      refine ao ⟨rfl,rfl,rfl,rfl,rfl,rfl,rfl,rfl,rfl,?_,aa⟩;show D.s (.bool (x.kind==3))=_;rw[h];rfl
     refine af ?_;refine ab (ao ⟨rfl,rfl,rfl,rfl,rfl,rfl,rfl,rfl,rfl,?_,aa⟩);show D.s (.bool (x.kind==6))=_;simp only[aC,any_cons,any_nil,e1,Bool.false_or,Bool.or_false]
    clear hg;refine au rfl (λy9=>aj ?_) λy9=>aj ?_
    .have U:=ajj (to:=to) vj y9;have kd:(aR x).drop (0+1)=I x.a::(aR x).drop 2:=rfl;refine az ?_;refine ab (au rfl (λh0=>lS ?_) λh0=>zy ?_)
     .have h0:0<=x.a:=by simpa using h0
      let⟨kk,v,ha,hv,e⟩:=oW ⟨h0,hE.a2 y9 h0⟩;rw[bi h0,e] at U;rw[ha] at kd;refine cB ?_;exact bT (dM (d:=.s (.int _ _)) (cs':=aR (oX to x)) rfl rfl an rfl (by rw[U];rfl)) aB (bW t3 c3 ⟨rfl,aP rfl⟩ rfl) (ab ⟨_,C.mono (λi hi=>aW _ _ oG) (bK _),ap _ _ _,ao eH⟩)
     .have h0:¬ 0<=x.a:=by simpa using h0
      rw[ai h0] at U;exact⟨_,C,by rw[U];exact an,ao eH⟩
    .have U:=ajk (to:=to) vj y9;refine af ?_;refine ab (au rfl (λX=>lS ?_) λX=>zy ?_)
     .have X:x.kind=5:=by simpa using X
      rw[bi X] at U;have EN:=EN (hE.ins X);refine SS ?_;refine ax (dL (vs:=aI x.ins) rfl an a45 kG rfl) aB (dN t45 kG (aP rfl)) (SS ?_);refine cl EN ?_;refine SS ?_;exact bT (eK (vs:=aI (jg to x.ins)) (cs':=aR (oX to x)) rfl rfl an (by rw[U];rfl)) aB (bW t45 kG ⟨rfl,aP rfl⟩ rfl) (ab ⟨_,C.mono (λi hi=>aW _ _ oG) (bK _),ap _ _ _,ao eH⟩)
     .have X:¬ x.kind=5:=by simpa using X
      rw[ai X] at U;exact⟨_,C,by rw[U];exact an,ao eH⟩
   clear C an;rintro s ⟨M,C,an,J⟩;refine⟨_,J,?_⟩;clear J;have wZ:G5 to b.fin={ oX to b.fin with b:=if b.fin.kind=8 then bf to b.fin.b else b.fin.b,args:=b.fin.args.map (bf to) }:=rfl;rw[wZ] at gi;have w8:=hE.b;have y1:(oX to b.fin).kind=b.fin.kind:=rfl;have y2:(oX to b.fin).b=b.fin.b:=rfl;have y3:(oX to b.fin).args=b.fin.args:=rfl;generalize oX to b.fin=y at*
   rw[<- y1, <- y2] at w8 gi;rw[<- y3] at uF gi;clear y1 y2 y3 hE hI hS lb wZ;refine cI (λs=>∃ M,TB M nx f rs x7 bs/\M aw=some (.cells (aR { y with b:=if y.kind=8 then bf to y.b else y.b }) 48)/\aL prog s ⟨ay [(1,av to),(2,.pt (aG f)),(4,.rp 1 0),(5,I 0),(8,.rp 2 0),(10,I k),(11,eV il),(13,.rp aw 0)],M,aw+1⟩) (aj ?_) ?_
   .have kd:(aR y).drop (0+0)=U8 y.kind::(aR y).drop 1:=rfl;refine az ?_;refine ab (au rfl (λh8=>eI ?_) λh8=>bd ?_)
    .have h8:y.kind=8:=by simpa using h8
     let⟨kk,v,ha,hv,e⟩:=oW (w8 h8);rw[bi h8,e];have kd:(aR y).drop (0+2)=I kk::(aR y).drop 3:=by rw[<- ha];rfl
     refine cB ?_;exact bT (dM (d:=.s (.int _ _)) (cs':=aR { y with b:=v }) rfl rfl an rfl rfl) aB (bW t3 c3 ⟨rfl,aP rfl⟩ rfl) (ab ⟨_,C.mono (λi hi=>aW _ _ oG) (bK _),ap _ _ _,ao eH⟩)
    .have h8:¬ y.kind=8:=by simpa using h8
     rw[ai h8];exact⟨_,C,an,ao eH⟩
   clear C an;rintro s ⟨M,C,an,J⟩;refine⟨_,J,?_⟩;clear J;generalize (if y.kind=8 then bf to y.b else y.b)=yb at*
   refine cI (λs=>∃ M,TB M nx f rs x7 bs/\M aw=some (.cells (aR { y with b:=yb,args:=y.args.map (bf to) }) 48)/\aL prog s ⟨ay [(1,av to),(2,.pt (aG f)),(4,.rp 1 0),(5,I 0),(8,.rp 2 0),(10,I k),(11,eV il),(13,.rp aw 0)],M,aw+1⟩) (eI ?_) ?_
   .have kd:(aR { y with b:=yb }).drop (0+12)=av y.args::(aR y).drop 13:=rfl;refine az ?_;refine cl uF ?_;refine SS ?_;exact bT (dM (d:=.sl _ _) (cs':=aR { y with b:=yb,args:=y.args.map (bf to) }) rfl rfl an rfl rfl) aB (bW t35 jC ⟨rfl,aP rfl⟩ rfl) (ab ⟨_,C.mono (λi hi=>aW _ _ oG) (bK _),ap _ _ _,ao eH⟩)
   clear C an;rintro s ⟨M,C,wk,J⟩;refine⟨_,J,gE ?_⟩;clear J uF w8;generalize ({ y with b:=yb,args:=y.args.map (bf to) }:Abs.End)=y' at*
   have lc:(bs.flatMap bq).length=k*16:=by rw[pd (sz:=16) (λ_=>rfl),jo]
   have an:=C.r2;have kd:(headD f x7 (.rs 3 0 f.ag.length)).drop (0+7)=x7::[]:=rfl;refine az ?_;refine ax (dL (vs:=aR y') rfl wk FG rP rfl) aB (dN t48 rP (aP rfl)) (af ?_);rcases C.gr with⟨h0,h00,rfl⟩|⟨r2,hr3,hr4,rfl,O⟩
   .apply cY (lq rfl rfl V.h V.h (gV s3 rfl)) ak ⟨V.h,c0,oC,db,(by rw[CN];first|omega|(simp;omega))⟩;have an:∀ {a b'},up (up M (aw+1) a) (aw+1+1) b' 2=some (.cells (headD f .z (.rs 3 0 f.ag.length)) 26):=aq oG (aq oG C.r2);refine SS ?_;refine bT (dM (d:=.rs _ _ _) (cs':=headD f (.rs (aw+1+1) 0 1) (.rs 3 0 f.ag.length)) rfl rfl an rfl rfl) aB (bW t24 CO ⟨rfl,aP rfl⟩ rfl) (ab (az ?_));refine ab (bA (k+1,.rs (aw+1+1) 0 1,_,aw+1+1+1) (ao eH) ⟨oM,?_⟩ oM);dsimp only;rw[gi];refine⟨?_,rfl,?_,oG,.inr ⟨aw+1+1,oG,oG,by rw[length_append,h0];rfl,(aW _ _ oG).trans (s3.trans ?_)⟩⟩
    .exact aq oG (aq oG C.r1)
    .exact aq oG (aq oG C.r3)
    .rw[flatMap_append,h00];simp;rfl
   .have dQ:∀ {a},up M (aw+1) a r2=some (.cells (bs.flatMap bq) 69):=aq oG O;apply gf (fW rfl dQ rfl Mr mN (gV s3 rfl) rfl) aB ⟨LH,rfl,aP rfl,oC,by rw[lc,jo];omega,by unfold maxLen;omega,by rw[CN];omega,by simp;omega⟩;have an:∀ {a b' c},up (up (up M (aw+1) a) r2 b') (aw+1+1) c 2=some (.cells (headD f (.rs r2 0 bs.length) (.rs 3 0 f.ag.length)) 26):=aq oG (aq oG (aq oG C.r2));refine SS ?_;refine bT (dM (d:=.rs _ _ _) (cs':=headD f (.rs (aw+1+1) 0 (bs.length+1)) (.rs 3 0 f.ag.length)) rfl rfl an rfl rfl) aB (bW t24 CO ⟨rfl,aP rfl⟩ rfl) (ab (az ?_));refine ab (bA (k+1,.rs (aw+1+1) 0 (bs.length+1),_,aw+1+1+1) (ao eH) ⟨oM,?_⟩ oM);dsimp only;rw[gi];refine⟨?_,rfl,?_,oG,.inr ⟨aw+1+1,oG,oG,by rw[length_append];rfl,(aW _ _ oG).trans (s3.trans ?_)⟩⟩
    .exact aq oG (aq oG (aq oG C.r1))
    .exact aq oG (aq oG (aq oG C.r3))
    .rw[flatMap_append];simp;rfl
  .have bJ:¬ k<f.blocks.length:=by simpa using h
   have:k=f.blocks.length:=by omega
   subst this;rw[take_length] at C;exact⟨x7,m,nx,C,ao eH⟩
 .rintro s ⟨x,m,nx,C,J⟩
  have R5:∃ m2 jl,aL prog s ⟨ay [(4,.rp 1 0),(5,I 0),(8,.rp 2 0)],m2,jl⟩/\m2 1=some (.cells ef 26)/\m2 2=some (.cells (aG { f with ag:=rs,blocks:=f.blocks.map (nz to) }) 26):=by
   rcases C.gr with⟨h0,_,_⟩|⟨r,pN,tQ,rfl,O⟩
   .have:=hF.pos;rw[length_map] at h0;omega
   have g2:ig 3 (rs.map U8) (prog.cellsOf 5) m r=some (.cells ((f.blocks.map (nz to)).flatMap bq) 69):=kx O oG (xz I7 _)
   have g3:ig r ((f.blocks.map (nz to)).flatMap bq) (prog.cellsOf 69) (ig 3 (rs.map U8) (prog.cellsOf 5) m) 2=some (.cells (aG { f with ag:=rs,blocks:=f.blocks.map (nz to) }) 26):=by
    unfold ig;rw[ai oG,ai oG,C.r2];show some (Row.cells [S f.name,B f.iter,I f.args,U8 f.result,sub (cZ r _ _) (sub (cZ 3 (rs.map U8) _) (.rs 3 0 f.ag.length)),cH f.aU,io f.signals,sub (cZ r _ _) (sub (cZ 3 (rs.map U8) _) (.rs r 0 (f.blocks.map (nz to)).length))] 26)=_;rw[lR (i:=3) (j:=r) oG,oI,oI,c5,mN,List.drop_zero,List.drop_zero,Nat.mul_one,cW (l:=rs.map U8) (by rw[List.length_map,qE];exact bK _),s9 (f:=bq) (sz:=16) (λ_=>rfl),List.take_length, <- qE];rfl
   refine⟨_,nx,J.trans ((pR (l:=[(4,.rp 1 0),(5,I 0),(8,.rp 2 0)]) C.r3 ⟨gk oG,rfl,gk oG,aa⟩).trans (pR (l:=[(4,.rp 1 0),(5,I 0),(8,.rp 2 0)]) g2 ⟨gk oG,rfl,gk oG,aa⟩)),kx (kx C.r1 oG (.cells F3)) oG (.cells F3),g3⟩
  let⟨m2,jl,SJ,q1,q2⟩:=R5;refine⟨_,SJ,aj ?_⟩;clear SJ J;have an:=q2;apply ax (dL (vs:=aG _) rfl an V.h V.h rfl) ak (dN V.h V.h da);have an:=q1;refine bT (eK (cs':=aG _) rfl rfl an rfl) ak (bW V.h V.h bk (by rfl)) (SS ?_);exact ab (rX (fT (cs:=aG { f with ag:=rs,blocks:=f.blocks.map (nz to) }) (vs:=aG { f with ag:=rs,blocks:=f.blocks.map (nz to) }) rfl rfl a26 iS rfl t26 (aP rfl)) rfl rfl)
section
structure LX(n:Nat)(x:Ins):Prop where
 ia:Hg n x
 FK:Lf n x
 eq:∀ to,jY to x=jg to x
variable{l:List Int}{x:Ins}{s:Shape}
def TU(h:p6 l x s=true):s.args=5\/s.args=6\/x.args=[]:=by
 unfold p6 at h;simp[aH] at h;let⟨_,_,_,C,_⟩:=h;unfold rY at C;split at C
 .rename_i e;exact .inl e
 .split at C
  .rename_i e;exact .inr (.inl e)
  .refine .inr (.inr (length_eq_zero_iff.1 ?_));have:(x.args.length:Int)=0:=tn C
   omega
def U7(hm:(x.op,s)∈gW\/(x.op,s)∈fX)(h:RL l x s)(ha:s.args=5\/s.args=6\/x.args=[]):LX l.length x:=by
 let⟨h1,h2,C,J⟩:=h;unfold iK at h1 h2 C J;let⟨op,to,a,b,n,args⟩:=x;dsimp only at h1 h2 C J hm ha;simp[gW,fX,mem_cons,cO,not_mem_nil,or_false] at hm;rcases hm with hm|hm
 .rcases hm with hm|hm|hm|hm|hm|hm|hm|hm|hm|hm|hm|hm|hm|hm|hm<;>obtain⟨rfl,rfl⟩:=hm<;>refine⟨⟨?_,?_,?_,?_,?_⟩,⟨?_,?_,?_,?_,?_⟩,λq=>?_⟩<;>
   simp_all[jY,jg,qm,dO,gW,fX,cN,dt,aC,my,ow,lk,mu]<;>omega
 .rcases hm with hm|hm|hm|hm|hm|hm|hm|hm|hm<;>obtain⟨rfl,rfl⟩:=hm<;>refine⟨⟨?_,?_,?_,?_,?_⟩,⟨?_,?_,?_,?_,?_⟩,λq=>?_⟩<;>
   simp_all[jY,jg,qm,dO,gW,fX,cN,dt,aC,my,ow,lk,mu]<;>omega
end
def Nx{x:Ins}(h:kJ x=true):x.args=[]:=by
 unfold kJ at h;have:(x.args.length:Int)=0:=tn h
 exact length_eq_zero_iff.1 oG
def afJ{f:aO}{b ahead:Int}{x:Ins}{phis:Bool}(hs:∀ k∈f.aU,k≠0)(hl:x.args.length<=1000)(h:ky f b x phis ahead=true):LX f.ag.length x:=by
 unfold ky at h;let⟨op,to,a,b',n,args⟩:=x;dsimp only at h hl;split at h
 .rename_i k9;subst k9;simp only[aH,jr] at h;have hr:=ll (l:=f.ag) (r:=a) oG;have ha:=Nx h.2.2.2.2;unfold iK at hr;dsimp only at ha;subst ha;refine⟨⟨?_,?_,?_,?_,?_⟩,⟨?_,?_,?_,?_,?_⟩,λq=>?_⟩<;>simp_all[jY,jg,qm,dO,gW,fX,nE,cN,dt,aC,my,ow,lk,mu]
 .split at h
  .rename_i gj;subst gj;simp only[aH,jr] at h;let⟨h1,h2,h3⟩:=GG hs h.2.2.2;have ha:=Nx h.2.2.1;unfold iK at h1;dsimp only at ha;subst ha;clear h;refine⟨⟨?_,?_,?_,?_,?_⟩,⟨?_,?_,?_,?_,?_⟩,λq=>?_⟩<;>simp_all[jY,jg,qm,dO,gW,fX,nE,cN,dt,aC,my,ow,lk,mu]
  .split at h
   .rename_i U;subst U;simp only[aH,jr] at h;let⟨h1,h2,h3⟩:=GG hs h.2.2.2;have ha:=Nx h.2.2.1;unfold iK at h1;dsimp only at ha;subst ha;clear h;refine⟨⟨?_,?_,?_,?_,?_⟩,⟨?_,?_,?_,?_,?_⟩,λq=>?_⟩<;>simp_all[jY,jg,qm,dO,gW,fX,nE,cN,dt,aC,my,ow,lk,mu]
   .split at h
    .rename_i O;subst O;simp only[aH,jr,decide_eq_true_eq] at h;let⟨g1,g2,J,g4,g5,g6,g7,C⟩:=h;have hr:=om J;have hk:cV f.ag to≠0:=λe=>by simp[fB,e] at J
     have hA:∀ r∈args,0<=r/\r<f.ag.length:=λr X=>by
      have:aZ (cV f.ag r) (cV f.ag to)=true:=by
       simp only[Bool.not_eq_true',any_eq_false] at C;simpa using C r X
      rw[jr] at this;have:=ll (l:=f.ag) (r:=r) (by rw[this];exact hk);unfold iK at this;exact this
     have hlen:args.length<=1000:=hl;unfold iK at hr;clear C;refine⟨⟨?_,?_,?_,?_,?_⟩,⟨?_,?_,?_,?_,?_⟩,λq=>?_⟩<;>simp_all[jY,jg,qm,dO,gW,fX,nE,cN,dt,aC,my,ow,lk,mu]<;>omega
    .rw[aH] at h;cases hs:dO gW op with
     |none=>rw[hs] at h;simp at h
     |some s=>
      rw[hs] at h;exact U7 (.inl (F5 hs)) (Gk h.2) (TU h.2)
def NX{to l C:List Int}(ha:C.length=l.length)(hp:∀ i,i<l.length->∃ v:Nat,v<l.length/\to[i]? =some (v:Int))(hi:∀ i j,i<j->j<l.length->to[i]? ≠to[j]?):∀ {k},k<=l.length->∀ i,i<k->∃ v:Nat,to[i]? =some (v:Int)/\(putAt to l C k)[v]? =l[i]?
 |0,_,i,h=>by omega
 |k+1,hk,i,h=>by
  let⟨w,U,J⟩:=hp k oG;have hx:l[k]? =some l[k]:=by simp
  rw[I9,tu J,tu hx,eC];by_cases e:i=k
  .subst e;exact⟨w,J,by rw[getElem?_set_self (by rw[vD,ha];exact U),hx]⟩
  .let⟨v,hv,hg⟩:=NX ha hp hi (k:=k) oG i oG;refine⟨v,hv,?_⟩;rw[getElem?_set_ne (λO=>?_),hg];subst O;exact hi i k oG oG (hv.trans J.symm)
section
def Ym:∀ {s t:List Nat},s.Nodup->(∀ x∈s,x∈t)->s.length<=t.length
 |[],_,_,_=>Nat.zero_le _
 |x::s,t,hn,h=>by
  let⟨h1,h2⟩:=List.nodup_cons.1 hn;have hx:x∈t:=h x (mem_cons_self ..);have:=Ym (s:=s) (t:=t.erase x) h2 λy hy=>(List.mem_erase_of_ne λe=>h1 (by rw[<- e];exact hy)).2 (h y (mem_cons_of_mem _ hy));rw[length_erase_of_mem hx] at this;have:=List.length_pos_of_mem hx;rw[length_cons];omega
structure Lk(to:List Int)(n:Nat):Prop where
 len:to.length=n
 at_:∀ i,i<n->∃ v:Nat,v<n/\to[i]? =some (v:Int)
 inj:∀ i j,i<j->j<n->to[i]? ≠to[j]?
variable{to:List Int}{n:Nat}
def Qp{fixed:Int}(h:lX to n fixed=true):Lk to n:=by
 rw[lX,aH,cm] at h;have hl:to.length=n:=by have:=h.2;simp at this;omega
 have hk:∀ i,i<n->dz (to.getD i 0) 0 (n - 1)=true/\aC (to.take i) (to.getD i 0)=false:=λi hi=>by
  have:=h.1 i (mem_range.2 oG);rw[px,aH,aH] at this;exact⟨this.1,tn this.2.1⟩
 refine⟨hl,λi hi=>?_,λi j C hj e=>?_⟩
 .have h1:=jF.1 (hk i hi).1;rw[tu (aV (show i<to.length by omega))] at h1;let⟨v,hv⟩:=fc h1.1;exact⟨v,oG,by rw[aV (show i<to.length by omega),hv]⟩
 .have h1:=(hk j hj).2;have hx:=aV (show i<to.length by omega);rw[hx] at e;rw[tu e.symm] at h1;rw[aC,any_eq_false] at h1;refine h1 to[i] ?_ oS;apply cL (i:=i);rw[getElem?_take,bi C,hx]
def Lk.aqr(h:Lk to n){v:Nat}(hv:v<n):∃ i,i<n/\to[i]? =some (v:Int):=by
 apply Classical.byContradiction;intro hn
 have eY:(to.map Int.toNat).Nodup:=by
  refine pairwise_iff_getElem.2 λi j hi hj O=>?_;rw[length_map,h.len] at hi hj;rw[getElem_map,getElem_map];let⟨a,_,ha⟩:=h.at_ i hi;let⟨b,_,hb⟩:=h.at_ j hj;have h1:=h.inj i j O hj;rw[ha,hb] at h1;rw[(bO.1 ha).2,(bO.1 hb).2];intro e;apply h1;simp at e;rw[e]
 have:=Ym (s:=to.map Int.toNat) (t:=(range n).erase v) eY λx hx=>by
  obtain⟨y,hy,rfl⟩:=mem_map.1 hx;let⟨i,hi⟩:=dW hy;have C:i<n:=by have:=(bO.1 hi).1;have:=h.len;omega
  let⟨a,ha,J⟩:=h.at_ i C;rw[hi] at J;have e:y=a:=Option.some.inj J;subst e;rw[eC];exact(List.mem_erase_of_ne λe=>hn ⟨i,C,by rw[hi,e]⟩).2 (mem_range.2 ha)
 rw[length_map,h.len,length_erase_of_mem (mem_range.2 hv),length_range] at this;omega
def afK{l C acc':List Int}(h:Lk to l.length)(h1:C.length=l.length)(h2:acc'.length=l.length):putAt to l C l.length=putAt to l acc' l.length:=by
 refine ext_getElem? λv=>?_;by_cases hv:v<l.length
 .let⟨i,hi,J⟩:=h.aqr hv;let⟨a,ha,U⟩:=NX h1 h.at_ h.inj (bK _) i hi;let⟨b,hb,X⟩:=NX h2 h.at_ h.inj (bK _) i hi;rw[J] at ha hb;have ea:v=a:=by have q:=Option.some.inj ha;omega
  have O:v=b:=by have q:=Option.some.inj hb;omega
  rw[ea] at*
  rw[U,O,X]
 .rw[getElem?_eq_none (by rw[vD];omega),getElem?_eq_none (by rw[vD];omega)]
structure RV(n:Nat)(x:End):Prop where
 ia:X4 n x
 FK:X5 n x
 eq:∀ to,PI to x=G5 to x
def U9(k:Int):aC [2,8,9,7] k=aC [2,7,8,9] k:=by
 simp[aC,any_cons,any_nil];cases (k==2)<;>cases (k==7)<;>cases (k==8)<;>cases (k==9)<;>rfl
variable{x:End}
def xT(ha:aC [2,8,9,7] x.kind=true->0<=x.a/\x.a<n)(C:aC [3,6] x.kind=true->0<=x.a->x.a<n)(hb:x.kind=8->0<=x.b/\x.b<n)(hi:x.kind=5->LX n x.ins)(hr:∀ r∈x.args,0<=r/\r<n)(hl:x.args.length<=100000):RV n x:=by
 refine⟨⟨ha,C,hb,λh=>(hi h).ia,hr,hl⟩,⟨by rw[<- U9];exact ha,C,hb,λh=>(hi h).FK,hr,hl⟩,λto=>?_⟩;rw[PI,G5,oX,U9];by_cases h:x.kind=5
 .simp[h,if_true];rw[(hi h).eq]
 .simp[h,if_false]
def afI{f:aO}(hr:pU f=true)(h:jJ f x=true):RV f.ag.length x:=by
 rw[jJ,aH] at h;let⟨h,hb⟩:=h;have hb:=JW hb;have U:∀ {r:Int},cV f.ag r≠0->0<=r/\r<f.ag.length:=λh=>ll h;let⟨kind,a,b,to,cz,name,ins,args,aA,others⟩:=x;simp only[gZ] at h hb;by_cases h1:kind=1
 .subst h1;simp only[if_true] at h hb;have ha:args=[]:=length_eq_zero_iff.1 hb.2.2.2.2.2.2.1;subst ha;exact xT (by simp[aC]) (by simp[aC]) oS oS oS oS
 by_cases h2:kind=2
 .subst h2;simp only[Int.reduceEq,if_false,if_true,aH,jr] at h hb;have ha:args=[]:=length_eq_zero_iff.1 hb.2.2.2.2.2.2.1;subst ha;exact xT (λ_=>U (r:=a) oG) (by simp[aC]) oS oS oS oS
 by_cases h3:kind=3
 .subst h3;simp only[Int.reduceEq,if_false,if_true] at h hb;have ha:args=[]:=length_eq_zero_iff.1 hb.2.2.2.2.2.2.1;subst ha;refine xT (by simp[aC]) (λ_ h0=>?_) oS oS oS oS;dsimp only at h0 ⊢;split at h
  .rename_i hc;rw[jr] at h;exact(U (by rw[h];exact hc.1)).2
  .rw[jr] at h;omega
 by_cases h4:kind=4
 .subst h4;simp only[Int.reduceEq,if_false,if_true] at h hb;have ha:args=[]:=length_eq_zero_iff.1 hb.2.2.2.2.2.2.1;subst ha;exact xT (by simp[aC]) (by simp[aC]) oS oS oS oS
 by_cases h5:kind=5
 .subst h5;simp only[Int.reduceEq,if_false,if_true,aH] at h hb;have ha:args=[]:=length_eq_zero_iff.1 hb.2.2.2.2.2.2.1;subst ha;refine xT (by simp[aC]) (by simp[aC]) oS (λ_=>?_) oS oS;let⟨J,C,_⟩:=h;dsimp only;cases hs:dO fX ins.op with
  |none=>rw[hs] at J;simp at J
  |some s=>rw[hs] at C;exact U7 (.inr (F5 hs)) (Gk C) (TU C)
 by_cases h6:kind=6
 .subst h6;simp only[Int.reduceEq,if_false,if_true,aH,Bool.or_eq_true,jr,decide_eq_true_eq] at h hb;let⟨J,C,g3,O,g5,g6⟩:=h;refine xT (by simp[aC]) (λ_ h0=>?_) oS oS (λr X=>xC g3 r X) oM;dsimp only at h0 ⊢;rcases O with O|O
  .omega
  .have:=om O;unfold iK at this;omega
 by_cases h7:kind=7
 .subst h7;simp only[Int.reduceEq,if_false,if_true,aH,jr,decide_eq_true_eq] at h hb;let⟨J,C,g3,O,g5⟩:=h;exact xT (λ_=>U (r:=a) oG) (by simp[aC]) oS oS (λr X=>xC g3 r X) oM
 by_cases h8:kind=8
 .subst h8;simp only[Int.reduceEq,if_false,if_true,aH,jr] at h hb;have ha:args=[]:=length_eq_zero_iff.1 hb.2.2.2.2.2.2.1;subst ha;exact xT (λ_=>U (r:=a) oG) (by simp[aC]) (λ_=>om h.2.1) oS oS oS
 by_cases h9:kind=9
 .subst h9;simp only[Int.reduceEq,if_false,if_true,aH,jr] at h hb;have ha:args=[]:=length_eq_zero_iff.1 hb.2.2.2.2.2.2.1;subst ha;refine xT (λ_=>U (r:=a) ?_) (by simp[aC]) oS oS oS oS;let⟨J,C,_⟩:=h;rw[C];intro e;simp[pU,e,J] at hr
 simp[h1,h2,h3,h4,h5,h6,h7,h8,h9] at h
end
def aii(s:ByteArray):∀ (n i:Nat) (r:List UInt8),s.size - i=n->ByteArray.toList.loop s i r=r.reverse++s.data.toList.drop i:=by
 intro n
 induction n with
 |zero=>
  intro i r h;unfold ByteArray.toList.loop;rw[ai oG,drop_eq_nil_of_le (by show s.data.size<=i;have:s.size=s.data.size:=rfl;omega)];simp
 |succ n ih=>
  intro i r h;rw[ByteArray.toList.loop,bi oG,ih (i+1) _ oG];have hi:i<s.data.toList.length:=by show i<s.data.size;have:s.size=s.data.size:=rfl;omega
  have h2:i<s.data.size:=hi;rw[drop_eq_getElem_cons hi]
  have:s.get! i=s.data.toList[i]:=by
   show s.data[i]! =_;rw[getElem!_pos s.data i h2];rfl
  rw[this];simp
def UI(s:ByteArray):s.toList=s.data.toList:=by
 rw[ByteArray.toList,aii s _ 0 [] rfl];simp
def X6{a b:ByteArray}(h:a.data.toList=b.data.toList):a=b:=by
 let⟨⟨l⟩⟩:=a;let⟨⟨m⟩⟩:=b;simp at h;simp[h]
def FH{a b:List Int}:aE prog 87 [av a,av b] (B (decide (a=b))):=by
 have J:∀ x∈[av a,av b],Tr x:=.cons (cR _) (.cons (cR _) .nil);refine qP (fo f87).he J λO=>?_;have hlen:=(O (av a) oS).sl.1;unfold maxLen at hlen;refine bN (fo f87) J (Tr.s _) ?_;refine ws (SS ?_);refine ab (aM (aj (bG ?_)));refine ab (cG rfl (λh=>?_) λh=>dn (aM (aF ?_)))
 .refine aM (aj (SS ?_));refine ab (dX (aD (d:=B false) rfl ?_));have C:a≠b:=λe=>by subst e;simp at h
  rw[decide_eq_false C]
 have kX:a.length=b.length:=by
  have:¬ ((a.length:Int)≠(b.length:Int)):=tn h
  omega
 clear h;refine SS ?_
 refine ab (cJ (λs=>aL prog s ⟨ay [],λ_=>none,0⟩/\a=b) (dS (α:=Nat) (λk=>⟨ay [(0,av a),(1,av b),(5,I k)],λ_=>none,0⟩)
  (λk=>k<=a.length/\∀ j,j<k->a[j]? =b[j]?) (λk=>a.length - k) 0 (ao eH) ⟨oG,λj hj=>by omega⟩ ?_) ?_)
 .rintro k ⟨hk,hinv⟩;refine aX ?_;refine ab ⟨_,rfl,λh=>?_,λh=>?_⟩
  .have al:k<a.length:=tn h
   have hx:a[k]? =some a[k]:=aV al;have hy:b[k]? =some b[k]:=aV oG;generalize a[k]=x at hx;generalize b[k]=y at hy;refine eJ iB (bg ?_);refine bU bX (au rfl (λhp=>?_) λhp=>?_)
   .refine ws (SS ?_);refine ab (bD (dd (bc (aD (d:=B false) rfl ?_))))
    have C:a≠b:=λe=>by
     subst e;rw[hx] at hy;cases hy;simp at hp
    rw[decide_eq_false C]
   .refine eQ (az ?_);refine ab (bA (k+1) (ao eH) ⟨oG,λj hj=>?_⟩ oG);by_cases e:j=k
    .subst e;rw[hx,hy];congr 1;simpa using hp
    .exact hinv j oG
  .have X:¬ k<a.length:=tn h
   refine⟨jq (l:=[]) aa,ext_getElem? λj=>?_⟩;by_cases hj:j<k
   .exact hinv j hj
   .rw[getElem?_eq_none oG,getElem?_eq_none oG]
 .rintro s ⟨hg,U⟩;refine⟨_,hg,aj ?_⟩;refine SS ?_;refine ab (aD (d:=B true) rfl ?_);rw[decide_eq_true U]
def orI(a b:Bool):(if a=true then true else b)=(a||b):=by cases a<;>rfl
def aoR(a b:Bool):(if a=true then b else false)=(a&&b):=by cases a<;>rfl
abbrev jh(n:Int):Int:=IntKind.i64.wrap n
noncomputable def sh(x y:Ins):Bool:= @decide (x=y) (Classical.propDecidable _)
def Gj{x y:Ins}:sh x y=true↔x=y:=by unfold sh;simp
def ru(f:aO):aO:={ f with ag:=f.ag.map jh,aU:=f.aU.map jh }
noncomputable def Eu(f g:aO):Bool:= @decide (ru f=ru g) (Classical.propDecidable _)
def NO{f g:aO}:Eu f g=true↔ru f=ru g:=by unfold Eu;simp
def agJ{f g:aO}(h:ru f=ru g->False):Eu f g=false:=by
 rw[Bool.eq_false_iff];intro e;exact h (NO.1 e)
def OW{a b:ByteArray}(h:(!(a.toList==b.toList))=false):a=b:=by
 have h:a.toList=b.toList:=tn h
 rw[UI,UI] at h;exact X6 h
def aij(x y:Ins):sh x y=((x.op==y.op)&&((x.to==y.to)&&((x.a==y.a)&&((x.b==y.b)&&((x.n==y.n)&&decide (x.args=y.args)))))):=by
 cases x;cases y;rw[Bool.eq_iff_iff,Gj];simp
def LI{l:List Int}(hl:l.length<=1000000):aE prog 114 [cH l] (av (l.map jh)):=by
 refine bN (fo f114) (.cons (r6 l) .nil) (cR _) ?_;refine ws (SS ?_);refine ab (aF (SS ?_));refine ab ⟨_,.mz _ _ _ 3 3 rfl,aM (aF ?_)⟩;refine SS ?_
 refine ab (cJ (λs=>∃ r nx,aL prog s ⟨ay [(3,.rs r 0 l.length)],b8 [(r,.cells ((l.map jh).map I) 3)],nx⟩) (dS (α:=Nat×Nat×Nat)
  (λs=>⟨ay [(0,cH l),(3,.rs s.2.1 0 s.1),(4,I s.1)],b8 [(s.2.1,.cells (((l.take s.1).map jh).map I) 3)],s.2.2⟩)
  (λs=>s.1<=l.length/\s.2.1<s.2.2) (λs=>l.length - s.1) (0,0,1)
  (a6 eH eH) ⟨Nat.zero_le _,oC⟩ ?_) ?_)
 .rintro⟨k,r,nx⟩ ⟨hk,hr⟩;dsimp only at hk hr ⊢;refine aX ?_;refine ab ⟨_,rfl,λh=>?_,λh=>?_⟩
  .have al:k<l.length:=tn h
   clear h;let⟨x,hx⟩:=tS l k al
   have C:(l.take (k+1)).map jh=(l.take k).map jh++[jh x]:=by rw[take_add_one,hx,map_append];rfl
   have J:((l.take k).map jh).length=k:=by simp;omega
   generalize (l.take k).map jh=cs at*
   have an:b8 [(r,Row.cells (cs.map I) 3)] r=some (.cells (cs.map I) 3):=by simp[b8]
   refine tW (bG ?_);refine ax (Xr rfl V.h) ak V.h (az ?_);apply ab;show aJ _ _ _ _ _ _ _ _ _;refine az ?_;refine ab (bA (k+1,nx+1,nx+1+1) ?_ ⟨oM,oM⟩ oM);dsimp only;rw[C];refine a6 eH ⟨s3.trans ?_,aa⟩;simp;rfl
  .have O:¬ k<l.length:=tn h
   have:k=l.length:=by omega
   subst this;rw[take_length];exact⟨r,nx,ao eH⟩
 .rintro s ⟨r,nx,hg⟩;refine⟨_,hg,aF ?_⟩;refine af ?_;refine ab (bF (r7 (i:=r) (cs:=(l.map jh).map I) (e:=3) (by simp[b8]) (l:=[(2,av (l.map jh))]) ⟨?_,aa⟩) (aD rfl rfl));exact(Bf (by rw[c3];simp)).trans oS
def aao{x y:Ins}:aE prog 115 [.agg (aI x),.agg (aI y)] (B (sh x y)):=by
 refine bN (fo f115) (.cons (.agg (jP x)) (.cons (.agg (jP y)) .nil)) (Tr.s _) ?_;refine aF (az ?_);refine ab (bF (cE [(0,aI x,45),(1,aI y,45)] eH (l:=[(2,.pt (aI x)),(3,.pt (aI y))]) eH) (aj ?_));refine bg ?_;refine bg ?_;refine bg ?_;refine bg ?_;refine af ?_;refine gc FH ?_;refine af ?_;refine ab (aD rfl ?_);show B _=B _;congr 1;rw[aij];simp only[aoR,Bool.and_assoc]
def aik(w v:iO):rC (cK w) (cK v)=some ([.string w.name,.int .i64 w.to],[.string v.name,.int .i64 v.to]):=rfl
def aoS:BI prog 82=some [2,0]:=kr
def aoT:prog.eqGuardType prog.depth 82=false:=kr
noncomputable def BW(w v:iO):Bool:= @decide (w=v) (Classical.propDecidable _)
def agK(w v:iO):jV [.string w.name,.int .i64 w.to] [.string v.name,.int .i64 v.to]=BW w v:=by
 rw[Bool.eq_iff_iff];unfold BW;cases w with|mk a b=>cases v with|mk c d=>
 simp only[jV,tA,Bool.and_true,aH,beq_iff_eq,decide_eq_true_eq,iO.mk.injEq,true_and,beq_self_eq_true];constructor
 .rintro⟨h,rfl⟩;exact⟨X6 h,rfl⟩
 .rintro⟨rfl,rfl⟩;exact⟨rfl,rfl⟩
def IA{f g:aO}(h1:f.ag.length<=1000000)(h2:f.aU.length<=1000000)(h3:g.ag.length<=1000000)(h4:g.aU.length<=1000000):aE prog 52 [.agg (aG f),.agg (aG g)] (B (Eu f g)):=by
 have ka:=LI h1;have kb:=LI h3;have kc:=LI h2;have J:=LI h4;have kab:=FH (a:=f.ag.map jh) (b:=g.ag.map jh);have kcd:=FH (a:=f.aU.map jh) (b:=g.aU.map jh);refine qP (fo f52).he (.cons (.agg (jG f)) (.cons (.agg (jG g)) .nil)) λiJ=>?_;refine bN (fo f52) (.cons (.agg (jG f)) (.cons (.agg (jG g)) .nil)) (Tr.s _) ?_;have wV:=agJ (f:=f) (g:=g);have yI:ru f=ru g->Eu f g=true:=NO.2
 have uO:f.name=g.name->f.iter=g.iter->f.args=g.args->f.result=g.result->f.ag.map jh=g.ag.map jh->f.aU.map jh=g.aU.map jh->f.signals=g.signals->f.blocks=g.blocks->ru f=ru g:=λa b c d e x y zQ=>by
  unfold ru;rw[e,x];cases f;cases g;simp_all
 have sU:ru f=ru g->f.name=g.name/\f.iter=g.iter/\f.args=g.args/\f.result=g.result/\f.ag.map jh=g.ag.map jh/\f.aU.map jh=g.aU.map jh/\f.signals=g.signals/\f.blocks=g.blocks:=λe=>by
  unfold ru at e;simp only[aO.mk.injEq] at e;exact e
 generalize Eu f g=sb at*
 refine aF ?_;refine az ?_;refine ab (bF (cE [(0,aG f,26),(1,aG g,26)] eH (l:=[(2,.pt (aG f)),(3,.pt (aG g))]) eH) (aM (eJ (ij [(29,30),(29,31),(39,40),(39,41)]) ?_)));refine aX ?_;refine ax (Pc rfl rfl) ak aa ?_;refine bG ?_;refine cq rfl rfl (aiX rfl rfl) (λhc=>⟨ak,V.h⟩) ?_;refine bg ?_;refine bg ?_;refine BG rfl rfl rfl (λhc=>⟨(by repeat' (first|exact trivial|exact hc|exact rfl|refine And.intro ?_ ?_)),ka⟩) ?_;refine af ?_;refine BG rfl rfl rfl (λhc=>⟨(by repeat' (first|exact trivial|exact hc|exact rfl|refine And.intro ?_ ?_)),kb⟩) ?_;refine gc FH ?_;refine bG ?_;refine BG rfl rfl rfl (λhc=>⟨(by repeat' (first|exact trivial|exact hc|exact rfl|refine And.intro ?_ ?_)),kc⟩) ?_;refine af ?_;refine BG rfl rfl rfl (λhc=>⟨(by repeat' (first|exact trivial|exact hc|exact rfl|refine And.intro ?_ ?_)),J⟩) ?_;refine gc FH ?_;refine bg ?_;refine bg ?_;refine af ?_;refine bU bX (cG rfl (λh=>?_) λh=>dn (aM (aF ?_)))
 .refine aM (aj ?_);refine SS ?_;refine ab (dX (aD (d:=B false) rfl ?_));rw[wV λe=>?_];obtain⟨e1,e2,e3,e4,e5,e6,e7,e8⟩:=sU e;revert h;rw[e1,e2,e3,e4,e5,e6,e7,e8];simp
 simp only[orI,Bool.or_eq_false_iff] at h;obtain⟨⟨⟨⟨⟨⟨⟨n1,n2⟩,n3⟩,n4⟩,n5⟩,n6⟩,n7⟩,n8⟩:=h;have e1:=OW n1;have e2:f.iter=g.iter:=by simpa using n2
 have e3:f.args=g.args:=by simpa using n3
 have e4:f.result=g.result:=by simpa using n4
 have e5:f.ag.map jh=g.ag.map jh:=by simpa using n5
 have e6:f.aU.map jh=g.aU.map jh:=by simpa using n6
 have l7:f.signals.length=g.signals.length:=by
  have:¬ ((f.signals.length:Int)≠g.signals.length):=by simpa using n7
  omega
 have l8:f.blocks.length=g.blocks.length:=by
  have:¬ ((f.blocks.length:Int)≠g.blocks.length):=by simpa using n8
  omega
 clear n1 n2 n3 n4 n5 n6 n7 n8;have fS:=iJ (.agg (aG f)) oS;have Iz:=(fS.agg (io f.signals) (by simp[aG])).sl.1;have wZ:=(fS.agg (fA f.blocks) (by simp[aG])).sl;have X:=wZ.1
 have aoW:∀ x∈f.blocks,x.ins.length<=9223372036854775807/\x.fin.aA.length<=9223372036854775807:=λx hx=>by
  have hm:∀ d∈bq x,Real d:=λd hd=>wZ.2 d (List.mem_flatMap.2 ⟨x,hx,hd⟩);have q1:=(hm (eV x.ins) (by simp[bq])).sl.1;have q2:=(hm (lg x.fin.aA) (by simp[bq,aR])).sl.1;unfold maxLen at q1 q2;omega
 unfold maxLen at Iz X;clear wZ fS iJ ka kb kc J kab kcd;refine SS ?_
 refine ab (cJ (λs=>aL prog s ⟨ay [(2,.pt (aG f)),(3,.pt (aG g))],λ_=>none,2⟩/\f.signals=g.signals) (dS (α:=Nat) (λk=>⟨ay [(2,.pt (aG f)),(3,.pt (aG g)),(5,I k)],λ_=>none,2⟩)
  (λk=>k<=f.signals.length/\∀ j,j<k->f.signals[j]? =g.signals[j]?) (λk=>f.signals.length - k) 0 (ao eH) ⟨Nat.zero_le _,λj hj=>by omega⟩ ?_) ?_)
 .rintro k ⟨hk,hinv⟩;refine bG ?_;refine ab ⟨_,rfl,λh=>?_,λh=>?_⟩
  .have al:k<f.signals.length:=by simpa using h
   obtain⟨x,hx⟩:∃ x,f.signals[k]? =some x:=⟨_,aV al⟩
   obtain⟨y,hy⟩:∃ y,g.signals[k]? =some y:=⟨_,aV oG⟩
   refine eJ iB ?_;refine cF ?_;refine af ?_;refine ax (Pc rfl rfl) ak aa ?_;refine bU bX (au rfl (λhp=>aj ?_) λhp=>eQ ?_)
   .refine SS ?_;refine ab (bD (dd (bc (aD (d:=B false) rfl ?_))));rw[wV λe=>?_];obtain⟨_,_,_,_,_,_,e7,_⟩:=sU e;rw[e7,hy] at hx;cases hx;have hp:(!(x.toList==x.toList))=true:=hp;simp at hp
   .show aJ _ _ _ _ _ _ _ _ _;refine az ?_;refine ab (bA (k+1) (ao eH) ⟨oG,λj hj=>?_⟩ oG);by_cases e:j=k
    .subst e;rw[hx,hy];congr 1;exact OW hp
    .exact hinv j oG
  .have bJ:¬ k<f.signals.length:=by simpa using h
   refine⟨ao eH,List.ext_getElem? λj=>?_⟩;by_cases hj:j<k
   .exact hinv j hj
   .rw[List.getElem?_eq_none oG,List.getElem?_eq_none oG]
 rintro s ⟨hg,e7⟩;refine⟨_,hg,aM (aF ?_)⟩;refine SS ?_
 refine ab (cJ (λs=>(∃ nx,aL prog s ⟨ay [],λ_=>none,nx⟩)/\f.blocks=g.blocks) (dS (α:=Nat×Nat) (λs=>⟨ay [(2,.pt (aG f)),(3,.pt (aG g)),(6,I s.1)],λ_=>none,s.2⟩)
  (λs=>s.1<=f.blocks.length/\∀ j,j<s.1->f.blocks[j]? =g.blocks[j]?) (λs=>f.blocks.length - s.1) (0,2) (ao eH) ⟨Nat.zero_le _,λj hj=>by dsimp only at hj;omega⟩ ?_) ?_)
 .rintro⟨k,nx⟩ ⟨hk,hinv⟩;dsimp only at hk hinv ⊢;refine bG ?_;refine ab ⟨_,rfl,λh=>?_,λh=>?_⟩
  .have al:k<f.blocks.length:=by simpa using h
   clear h;obtain⟨x,hx⟩:∃ x,f.blocks[k]? =some x:=⟨_,aV al⟩
   obtain⟨y,hy⟩:∃ y,g.blocks[k]? =some y:=⟨_,aV oG⟩
   obtain⟨SK,hxw⟩:=aoW x (cL hx)
   have U:(x=y->False)->sb=false:=λbC=>wV λe=>by
    obtain⟨_,_,_,_,_,_,_,e8⟩:=sU e;rw[e8,hy] at hx;cases hx;exact bC rfl
   refine ws ?_;refine eD ?_;refine er ?_;refine eD ?_;refine ab (aM (aj ?_));refine bG ?_;refine ab (cG rfl (λh=>?_) λh=>dn (aM (aF ?_)))
   .refine aM (aj ?_);refine SS ?_;refine ab (dX (dd (bc (aD (d:=B false) rfl ?_))));rw[U λe=>?_];subst e;simp at h
   have li:x.ins.length=y.ins.length:=by
    have:¬ ((x.ins.length:Int)≠y.ins.length):=by simpa using h
    omega
   clear h;refine SS ?_
   refine ab (cJ (λs=>aL prog s ⟨ay [(2,.pt (aG f)),(3,.pt (aG g)),(6,I k)],λ_=>none,nx⟩/\x.ins=y.ins) (dS (α:=Nat) (λj=>⟨ay [(2,.pt (aG f)),(3,.pt (aG g)),(6,I k),(7,eV x.ins),(8,eV y.ins),(9,I j)],λ_=>none,nx⟩)
    (λj=>j<=x.ins.length/\∀ i,i<j->x.ins[i]? =y.ins[i]?) (λj=>x.ins.length - j) 0 (ao eH) ⟨Nat.zero_le _,λj hj=>by omega⟩ ?_) ?_)
   .rintro j ⟨hj,C⟩;refine aX ?_;refine ab ⟨_,rfl,λh=>?_,λh=>?_⟩
    .have dx:j<x.ins.length:=by simpa using h
     obtain⟨u,hu⟩:∃ u,x.ins[j]? =some u:=⟨_,aV dx⟩
     obtain⟨v,hv⟩:∃ v,y.ins[j]? =some v:=⟨_,aV oG⟩
     refine eJ iB ?_;refine cF ?_;refine cl aao ?_;refine SS ?_;refine bU bX (au rfl (λhp=>aj ?_) λhp=>eQ ?_)
     .refine SS ?_;refine ab (bD (dd (bc (dd (bc (aD (d:=B false) rfl ?_))))));rw[U λe=>?_];subst e;rw[hv] at hu;cases hu;have hp:(!(sh u u))=true:=hp;rw[Gj.2 rfl] at hp;cases hp
     .have hp:(!(sh u v))=false:=hp;show aJ _ _ _ _ _ _ _ _ _;refine az ?_;refine ab (bA (j+1) (ao eH) ⟨oG,λi hi=>?_⟩ oG);by_cases e:i=j
      .subst e;rw[hu,hv];congr 1;exact Gj.1 (by simpa using hp)
      .exact C i oG
    .have bJ:¬ j<x.ins.length:=by simpa using h
     refine⟨ao eH,List.ext_getElem? λi=>?_⟩;by_cases hi:i<j
     .exact C i hi
     .rw[List.getElem?_eq_none oG,List.getElem?_eq_none oG]
   rintro s ⟨hg,atn⟩;refine⟨_,hg,aF ?_⟩;refine cF ?_;refine ab (bF (r7 (i:=nx) (l:=[(2,.pt (aG f)),(3,.pt (aG g)),(6,I k),(10,.pt (aR x.fin))]) (ap _ _ _) ⟨rfl,rfl,rfl,mC,aa⟩) (aF ?_));refine cF ?_;refine ab (bF (r7 (i:=nx+1) (l:=[(2,.pt (aG f)),(3,.pt (aG g)),(6,I k),(10,.pt (aR x.fin)),(11,.pt (aR y.fin))]) (ap _ _ _) ⟨rfl,rfl,rfl,rfl,mC,aa⟩) (aM (aj ?_)));refine bg ?_;refine bg ?_;refine bg ?_;refine bg ?_;refine bg ?_;refine cq rfl rfl (Pc rfl rfl) (λhc=>⟨ak,aa⟩) ?_;refine cB ?_;refine gc aao ?_;refine eD ?_;refine gc FH ?_;refine bg ?_;refine af ?_;refine ab (cG rfl (λh=>?_) λh=>dn (aF ?_))
   .refine aM (aj ?_);refine SS ?_;refine ab (dX (dd (bc (aD (d:=B false) rfl ?_))));rw[U λe=>?_];subst e;revert h;simp[Gj.2]
   simp only[orI,Bool.or_eq_false_iff] at h;obtain⟨⟨⟨⟨⟨⟨⟨⟨⟨m1,m2⟩,m3⟩,m4⟩,m5⟩,m6⟩,m7⟩,m8⟩,m9⟩,O⟩:=h
   have lw:x.fin.aA.length=y.fin.aA.length:=by
    have:¬ ((x.fin.aA.length:Int)≠y.fin.aA.length):=by simpa using O
    omega
   have yJ:x.fin.aA=y.fin.aA->x=y:=λhw=>by
    have q1:x.fin.kind=y.fin.kind:=by simpa using m1
    have q2:x.fin.a=y.fin.a:=by simpa using m2
    have q3:x.fin.b=y.fin.b:=by simpa using m3
    have q4:x.fin.to=y.fin.to:=by simpa using m4
    have q5:x.fin.cz=y.fin.cz:=by simpa using m5
    have q6:x.fin.others=y.fin.others:=by simpa using m6
    have q7:=OW m7;have q8:x.fin.ins=y.fin.ins:=Gj.1 (by simpa using m8);have q9:x.fin.args=y.fin.args:=by simpa using m9
    rcases x with⟨xi,xf⟩
    rcases y with⟨yi,yf⟩
    cases xf;cases yf;simp_all
   clear m1 m2 m3 m4 m5 m6 m7 m8 m9 O;refine SS ?_
   refine ab (dS (α:=Nat) (λj=>⟨ay [(2,.pt (aG f)),(3,.pt (aG g)),(6,I k),(10,.pt (aR x.fin)),(11,.pt (aR y.fin)),(12,I j)],λ_=>none,nx+1+1⟩)
    (λj=>j<=x.fin.aA.length/\∀ i,i<j->x.fin.aA[i]? =y.fin.aA[i]?) (λj=>x.fin.aA.length - j) 0 (ao eH) ⟨Nat.zero_le _,λj hj=>by omega⟩ ?_)
   rintro j ⟨hj,C⟩;refine bG ?_;refine ab ⟨_,rfl,λh=>?_,λh=>?_⟩
   .have dx:j<x.fin.aA.length:=by simpa using h
    obtain⟨u,hu⟩:∃ u,x.fin.aA[j]? =some u:=⟨_,aV dx⟩
    obtain⟨v,hv⟩:∃ v,y.fin.aA[j]? =some v:=⟨_,aV oG⟩
    refine eJ iB ?_;refine cF ?_;refine af ?_;refine ax (Zn (c:= !(BW u v)) rfl rfl aoS (aik u v) (by rw[agK])) aB ⟨rfl,aoT⟩ ?_;refine bU bX (au rfl (λhp=>aj ?_) λhp=>eQ ?_)
    .refine SS ?_;refine ab (bD (dd (dd (bc (aD (d:=B false) rfl ?_)))));rw[U λe=>?_];subst e;rw[hv] at hu;cases hu;have hp:(!(BW u u))=true:=hp;simp[BW] at hp
    .have hp:(!(BW u v))=false:=hp;show aJ _ _ _ _ _ _ _ _ _;refine az ?_;refine ab (bA (j+1) (ao eH) ⟨oG,λi hi=>?_⟩ oG);by_cases e:i=j
     .subst e;rw[hu,hv];congr 1;simpa[BW] using hp
     .exact C i oG
   .have bJ:¬ j<x.fin.aA.length:=by simpa using h
    have hxy:x=y:=yJ (List.ext_getElem? λi=>by
     by_cases hi:i<j
     .exact C i hi
     .rw[List.getElem?_eq_none oG,List.getElem?_eq_none oG])
    show aJ _ _ _ _ _ _ _ _ _;refine az ?_;refine ab (bA (k+1,nx+1+1) (ao eH) ⟨oM,λi hi=>?_⟩ oM);dsimp only at hi;by_cases e:i=k
    .subst e;rw[hx,hy,hxy]
    .exact hinv i oG
  .have bJ:¬ k<f.blocks.length:=by simpa using h
   refine⟨⟨nx,ao aa⟩,List.ext_getElem? λj=>?_⟩;by_cases hj:j<k
   .exact hinv j hj
   .rw[List.getElem?_eq_none oG,List.getElem?_eq_none oG]
 .rintro s ⟨⟨nx,hg⟩,e8⟩;refine⟨_,hg,aj ?_⟩;refine SS ?_;refine ab (aD (d:=B true) rfl ?_);rw[yI (uO e1 e2 e3 e4 e5 e6 e7 e8)]
def JC{f:aO}(h:fL f=0):ou f=true:=by
 unfold fL at h;split at h
 .assumption
 .cases h
section
def UN{f:aO}(h:nK f=true):∀ b∈f.blocks,uE b:=λb hb=>by
 rw[nK,aH] at h;have h:=cm.1 h.2 b hb;rw[aH] at h;let⟨h1,h2⟩:=h;unfold tg at h1;simp[aH,Bool.not_eq_true',Bool.or_eq_false_iff,decide_eq_false_iff_not,Bool.and_eq_false_iff] at h1;refine⟨oG,λx hx=>?_,oG,oG,oG⟩;have:=cm.1 h2 x hx;unfold si at this;simp at this;omega
variable{f:aO}
def afH(h:nK f=true):∀ b∈f.blocks,∀ x∈b.ins,x.args.length<=40:=λb hb x hx=>by
 rw[nK,aH] at h;have h:=cm.1 h.2 b hb;rw[aH] at h;have:=cm.1 h.2 x hx;unfold si at this;simp at this;omega
def TC{f:aO}(h:ou f=true):(∀ b∈f.blocks,jJ f b.fin=true)/\pU f=true/\f.signals.length<=6:=by
 unfold ou at h;simp only[aH] at h;let⟨C,J,_,O,hR⟩:=h;unfold pq at C;simp only[aH] at C;unfold r9 at J;simp only[aH,Bool.not_eq_true',decide_eq_false_iff_not] at J;refine⟨λx hx=>?_,C.2.2.1,oG⟩;let⟨k,hk⟩:=dW hx;have al:k<f.blocks.length:=(bO.1 hk).1;have:=cm.1 O k (tn al);rw[lU,getD_some hk] at this;simp only[aH] at this;exact this.1
structure z8(f:aO):Prop where
 ok:D8 f
 sig:f.signals.length<=6
 ins:∀ b∈f.blocks,∀ x∈b.ins,LX f.ag.length x
 ends:∀ b∈f.blocks,RV f.ag.length b.fin
def alz{f:aO}(U:nK f=true)(h:fL f=0):z8 f:=by
 have hb:=JC h;have J:=KK hb;let⟨h1,h2,O⟩:=TC hb;refine⟨J,O,λb C x hx=>?_,λb C=>afI h2 (h1 b C)⟩;let⟨k,hk⟩:=dW C;let⟨j,hj⟩:=dW hx;refine afJ J.aU.1 ?_ (J.right k b hk j x hj);have:=afH U b C x hx;omega
def z8.ia(h:z8 f)(hs:∀ b∈f.blocks,uE b):WS f f.ag.length:=
 ⟨by have:=h.ok.ag;omega,by have:=h.ok.aU.2;omega,by have:=h.sig;omega,by have:=h.ok.lim;omega,hs,λb hb x hx=>(h.ins b hb x hx).ia,λb hb=>(h.ends b hb).ia⟩
def z8.FK(h:z8 f)(hs:∀ b∈f.blocks,uE b):WT f f.ag.length:=
 ⟨h.ok.pos,by have:=h.ok.ag;omega,by have:=h.ok.lim;omega,hs,λb hb x hx=>(h.ins b hb x hx).FK,λb hb=>(h.ends b hb).FK⟩
def z8.eq{to:List Int}(h:z8 f)(hp:lX to f.ag.length f.args=true):Ar f to=EO f to:=by
 rw[Ar,EO,afK (Qp hp) rfl (acc':=replicate f.ag.length 0) oS]
 have:f.blocks.map (mQ to)=f.blocks.map (nz to):=map_congr_left λb hb=>by
  rw[mQ,nz,(h.ends b hb).eq,map_congr_left λx hx=>(h.ins b hb x hx).eq to]
 rw[this]
end
def fw(x:End)(h:D):List D:=[U8 x.kind,I x.a,I x.b,I x.to,I x.cz,S x.name,U8 x.ins.op,I x.ins.to,I x.ins.a,I x.ins.b,I x.ins.n,av x.ins.args,av x.args,h,I x.others]
def kC(b:bH)(s w:Nat):List D:=.rs s 0 b.ins.length::fw b.fin (.rs w 0 b.fin.aA.length)
def uh:List D:=[.z,U8 0,I 0,I 0,I 0,I 0,S ⟨#[]⟩,U8 0,I 0,I 0,I 0,I 0,.z,.z,.z,I 0]
def alf{b:bH}{m:Mem}{nx:Nat}(h:uE b):iZ prog 177 [.agg (bq b)] m nx λr m' aw=>∃ s w,nx<=s/\s<w/\w<aw/\r=.agg (kC b s w)/\m' s=some (.cells (b.ins.flatMap aI) 45)/\m' w=some (.cells (b.fin.aA.flatMap cK) 82)/\∀ k,k<nx->m' k=m k:=by
 let⟨h1,h2,h3,h4,h5⟩:=h;have tF:=Ze (l:=b.ins) (g:=178) (fs:=[]) (cs:=[]) (p:=λx=>x) oG (.fn oS oS) (λx hx=>aai (h2 x hx));rw[List.map_id'] at tF;have kA:=sW (l:=b.fin.args) h3;have kI:=sW (l:=b.fin.ins.args) h5;have kW:=Zg (l:=b.fin.aA) h4;refine y8 (fo f177) ?_;refine ws (af ?_);refine ab (cI (λst=>∃ M:Mem,M nx=some (.cells (.rs (nx+1+1) 0 b.ins.length::aR b.fin) 69)/\M (nx+1)=some (.cells uh 69)/\M (nx+1+1)=some (.cells (b.ins.flatMap aI) 45)/\(∀ k,k<nx->M k=m k)/\aL prog st ⟨ay [(1,.rp nx 0),(2,.rp (nx+1) 0)],M,nx+1+1+1⟩) (eI ?_) ?_)
 .have an:∀ {a},up (up m nx (some (.cells (bq b) 69))) (nx+1) a nx=some (.cells (bq b) 69):=aq oG s3;refine af ?_;apply z6 tF rfl aB;have an:∀ {a b'},up (up (up m nx (some (.cells (bq b) 69))) (nx+1) a) (nx+1+1) b' nx=some (.cells (bq b) 69):=aq oG (aq oG s3);refine SS ?_;refine bT (dM (d:=.rs _ _ _) (cs':=.rs (nx+1+1) 0 b.ins.length::aR b.fin) rfl rfl an rfl rfl) aB (bW t67 SG ⟨rfl,aP rfl⟩ rfl) (ab ⟨_,ap _ _ _,?_,?_,?_,ao eH⟩)
  .repeat (first|exact ap _ _ _|apply aq oG)
  .repeat (first|exact ap _ _ _|apply aq oG)
  .intro k hk
   repeat (first|exact rfl|apply aq oG)
 rintro st ⟨M,J,O,U,X,C⟩;refine⟨_,C,?_⟩;clear C tF;refine cI (λst=>∃ M:Mem,M nx=some (.cells (kC b (nx+1+1) (nx+1+1+1)) 69)/\M (nx+1)=some (.cells uh 69)/\M (nx+1+1)=some (.cells (b.ins.flatMap aI) 45)/\M (nx+1+1+1)=some (.cells (b.fin.aA.flatMap cK) 82)/\(∀ k,k<nx->M k=m k)/\aL prog st ⟨ay [(1,.rp nx 0),(2,.rp (nx+1) 0)],M,nx+1+1+1+1⟩) (GD (ij [(4,5),(4,6),(4,7),(4,9),(8,9),(4,10),(8,10),(4,11),(8,11),(8,13),(12,13),(8,14),(12,14),(8,15),(12,15)]) ?_) ?_
 .have an:=J;have kd:(D.rs (nx+1+1) 0 b.ins.length::aR b.fin).drop (0+1+6+5)=av b.fin.ins.args::(aR b.fin).drop 12:=rfl;refine aX ?_;apply z1 kI rfl aB;have kd:(D.rs (nx+1+1) 0 b.ins.length::aR b.fin).drop (0+1+12)=av b.fin.args::(aR b.fin).drop 13:=rfl;refine az ?_;apply z1 kA rfl aB;have kd:(D.rs (nx+1+1) 0 b.ins.length::aR b.fin).drop (0+1+13)=lg b.fin.aA::(aR b.fin).drop 14:=rfl;refine az ?_;apply z6 kW rfl aB;have an:∀ {a},up M (nx+1+1+1) a nx=_:=aq oG J;refine az ?_;apply bT (dM (d:=.sl _ _) (cs':=.rs (nx+1+1) 0 b.ins.length::aR b.fin) rfl rfl an rfl rfl) aB (bW t35 jC ⟨rfl,aP rfl⟩ rfl);have an:∀ {M:Mem} {c},up M nx c nx=c:=ap _ _ _;refine af ?_;refine bT (dM (d:=.sl _ _) (cs':=.rs (nx+1+1) 0 b.ins.length::aR b.fin) rfl rfl an rfl rfl) aB (bW t35 jC ⟨rfl,aP rfl⟩ rfl) (af ?_);refine bT (dM (d:=.rs _ _ _) (cs':=kC b (nx+1+1) (nx+1+1+1)) rfl rfl an rfl rfl) aB (bW t46 SL ⟨rfl,aP rfl⟩ rfl) (bU (by simp[mT];try omega) ⟨_,ap _ _ _,?_,?_,?_,?_,ao eH⟩)
  .repeat (first|exact O|apply aq oG)
  .repeat (first|exact U|apply aq oG)
  .repeat (first|exact ap _ _ _|apply aq oG)
  .intro k hk
   repeat (first|exact X k hk|apply aq oG)
 clear J O U X;rintro st ⟨M,J,O,U,q5,X,C⟩;refine⟨_,C,aj ?_⟩;clear C;refine ax (dL (vs:=kC b (nx+1+1) (nx+1+1+1)) rfl J FC mN rfl) aB (dN t69 mN (aP rfl)) (bT (eK (cs':=kC b (nx+1+1) (nx+1+1+1)) rfl rfl O rfl) aB (bW t69 mN ⟨rfl,aP rfl⟩ rfl) (ab (jR (fT (cs:=kC b (nx+1+1) (nx+1+1+1)) (vs:=kC b (nx+1+1) (nx+1+1+1)) rfl s3 FC mN rfl t69 (aP rfl)) ⟨nx+1+1,nx+1+1+1,oG,oG,Nat.lt_succ_self _,rfl,?_,?_,?_⟩)))
 .dsimp only
  repeat (first|exact U|apply aq oG)
 .dsimp only
  repeat (first|exact q5|apply aq oG)
 .intro k hk;dsimp only
  repeat (first|exact X k hk|apply aq oG)
section
def tv(l:List bH)(s w:Nat->Nat)(k:Nat):List D:=(range k).flatMap λi=>kC (l.getD i jx) (s i) (w i)
structure BR(M:Mem)(lo hi:Nat)(l:List bH)(s w:Nat->Nat)(k:Nat):Prop where
 s1:∀ i,i<k->lo<=s i/\s i<w i/\w i<hi
 s2:∀ i j,i<j->j<k->w i<s j
 ms:∀ (i:Nat) b,l[i]? =some b->i<k->M (s i)=some (.cells (b.ins.flatMap aI) 45)
 mw:∀ (i:Nat) b,l[i]? =some b->i<k->M (w i)=some (.cells (b.fin.aA.flatMap cK) 82)
variable{M:Mem}{l:List bH}{k:Nat}
def BR.mono{M':Mem}{lo hi C:Nat}{s w:Nat->Nat}(h:BR M lo hi l s w k)(hm:∀ j,lo<=j->j<hi->M' j=M j)(hh:hi<=C):BR M' lo C l s w k:=
 ⟨λi hi=>by have:=h.s1 i hi;omega,h.s2,λi b hb hi=>by have:=h.s1 i hi;rw[hm _ oG oG];exact h.ms i b hb hi,λi b hb hi=>by have:=h.s1 i hi;rw[hm _ oG oG];exact h.mw i b hb hi⟩
def BR.zero{lo hi:Nat}{s w:Nat->Nat}:BR M lo hi l s w 0:=⟨λi h=>by omega,λi j _ h=>by omega,λi b _ h=>by omega,λi b _ h=>by omega⟩
variable{b:bH}
def BR.snoc{lo hi C p q:Nat}{s w:Nat->Nat}(h:BR M lo hi l s w k)(hb:l[k]? =some b)(h0:lo<=hi)(h1:hi<=p)(h2:p<q)(O:q<C)(hp:M p=some (.cells (b.ins.flatMap aI) 45))(hq:M q=some (.cells (b.fin.aA.flatMap cK) 82)):BR M lo C l (up s k p) (up w k q) (k+1):=by
 refine⟨λi hi=>?_,λi j J hj=>?_,λi c hc hi=>?_,λi c hc hi=>?_⟩
 .by_cases e:i=k
  .subst e;rw[ap,ap];omega
  .rw[aW _ _ e,aW _ _ e];have:=h.s1 i oG;omega
 .rw[aW w _ (by omega:i≠k)];have U:=h.s1 i oG;by_cases e:j=k
  .subst e;rw[ap];omega
  .rw[aW _ _ e];exact h.s2 i j J oG
 .by_cases e:i=k
  .subst e;rw[ap];rw[hb] at hc;cases hc;exact hp
  .rw[aW _ _ e];exact h.ms i c hc oG
 .by_cases e:i=k
  .subst e;rw[ap];rw[hb] at hc;cases hc;exact hq
  .rw[aW _ _ e];exact h.mw i c hc oG
def qD{α β:Type}{f g:α->List β}:∀ {l:List α},(∀ x∈l,f x=g x)->l.flatMap f=l.flatMap g
 |[],_=>rfl
 |x::l,h=>by rw[flatMap_cons,flatMap_cons,h x oS,qD λy hy=>h y (by simp[hy])]
def adD{s w:Nat->Nat}{p q:Nat}(hb:l[k]? =some b):tv l (up s k p) (up w k q) (k+1)=tv l s w k++kC b p q:=by
 rw[tv,range_succ,flatMap_append];congr 1
 .refine qD λi hi=>?_;have:i≠k:=by have:=mem_range.1 hi;omega
  rw[aW _ _ this,aW _ _ this]
 .simp[ap,hb,dF]
def aeT(l:List bH)(s w:Nat->Nat)(k:Nat):(tv l s w k).length=k*16:=by
 rw[tv,length_flatMap];simp[kC,fw]
 induction k with
 |zero=>rfl
 |succ k ih=>rw[range_succ,map_append,List.sum_append,ih];simp;omega
end
def alg{l:List bH}{O:Mem}{C:Nat}(hl:l.length<=100000)(hg:∀ b∈l,uE b):iZ prog 176 [fA l,.fn (.func 177) [] []] O C λd m' aw=>∃ r s w,C<=r/\r<aw/\d=.rs r 0 l.length/\m' r=some (.cells (tv l s w l.length) 69)/\BR m' C r l s w l.length/\∀ k,k<C->m' k=O k:=by
 refine y8 (fo f176) ?_;refine ws (SS ?_);refine ab (aF (SS ?_));refine ab ⟨_,.mz _ _ _ 5 69 rfl,aM (aF ?_)⟩;refine az ?_
 refine ab (cJ (λst=>∃ r s w m nx,C<=r/\r<nx/\m r=some (.cells (tv l s w l.length) 69)/\BR m C r l s w l.length/\(∀ k,k<C->m k=O k)/\aL prog st ⟨ay [(5,.rs r 0 l.length)],m,nx⟩) (gl (α:=Nat×Nat×(Nat->Nat)×(Nat->Nat)×Mem×Nat)
  (λs=>⟨ay [(1,.fn (.func 177) [] []),(5,.rs s.2.1 0 s.1),(8,fA l),(9,I l.length),(10,I s.1)],s.2.2.2.2.1,s.2.2.2.2.2⟩)
  (λs=>s.1<=l.length/\C<=s.2.1/\s.2.1<s.2.2.2.2.2/\s.2.2.2.2.1 s.2.1=some (.cells (tv l s.2.2.1 s.2.2.2.1 s.1) 69)/\BR s.2.2.2.2.1 C s.2.1 l s.2.2.1 s.2.2.2.1 s.1/\∀ k,k<C->s.2.2.2.2.1 k=O k) (λs=>l.length - s.1) (0,C,λ_=>0,λ_=>0,_,_)
  (ao eH) ⟨Nat.zero_le _,bK _,Nat.lt_succ_self _,ap _ _ _,BR.zero,λk hk=>aW _ _ oG⟩ ?_) ?_)
 .rintro⟨j,r,s,w,m,nx⟩ ⟨hj,U,hr,an,J,hm⟩;dsimp only at hj U hr an J hm ⊢;refine SS ?_;refine ab ⟨_,rfl,λh=>?_,λh=>?_⟩
  .have dx:j<l.length:=tn h
   clear h;let⟨x,hx⟩:=tS l j dx
   have hS:=hg x (cL hx);have jo:=aeT l s w j;refine ws (aX ?_);refine ab (gE (az ?_));apply wj (alf hS) rfl aB;rintro d M aw ⟨p,q,h1,h2,h3,rfl,h4,h5,h6⟩;dsimp[St.put];refine SS ?_;have X:M r=some (.cells (tv l s w j) 69):=(h6 r oG).trans (aq oG (aq oG an));have hM:∀ k,k<nx->M k=m k:=λk hk=>(h6 k oG).trans ((aW _ _ oG).trans (aW _ _ oG));refine gf (fW rfl (aq oG X) rfl Mr mN (gV s3 rfl) rfl) aB ⟨LH,rfl,aP rfl,oC,by rw[jo];omega,by unfold maxLen;omega,by rw[CN];omega,by simp;omega⟩ (SS ?_);refine ab (af ?_);refine ab (bA (j+1,aw+1,up s j p,up w j q,_,_) (ao eH) ⟨oM,oM,Nat.lt_succ_self _,?_,?_,?_⟩ oM)
   .dsimp only;rw[adD hx];exact ap _ _ _
   .dsimp only;refine BR.snoc (hi:=r) (J.mono (λi h7 h8=>?_) (bK _)) hx oG oG h2 oG ?_ ?_
    .exact(aW _ _ oG).trans ((aW _ _ oG).trans ((aW _ _ oG).trans (hM i oG)))
    .exact aq oG (aq oG (aq oG h4))
    .exact aq oG (aq oG (aq oG h5))
   .intro k hk;dsimp only;exact(aW _ _ oG).trans ((aW _ _ oG).trans ((aW _ _ oG).trans ((hM k oG).trans (hm k hk))))
  .have bJ:¬ j<l.length:=tn h
   have:j=l.length:=by omega
   subst this;exact⟨r,s,w,m,nx,U,hr,an,J,hm,ao eH⟩
 .rintro st ⟨r,s,w,m,nx,U,hr,an,J,hm,bw⟩;refine⟨_,bw,aj ?_⟩;refine af ?_;exact ab (aD rfl ⟨r,s,w,U,hr,rfl,an,J,hm⟩)
def aaq:List D:=[U8 0,I 0,I 0,I 0,I 0,S ⟨#[]⟩,U8 0,I 0,I 0,I 0,I 0,.z,.z,.z,I 0]
def gv(to:List Int)(v:iO):iO:=⟨v.name,bf to v.to⟩
def mI(to:List Int)(x:End):End:={ x with to:=if x.kind≠3/\x.kind≠4 then bf to x.to else x.to,cz:=if aC [2,8] x.kind=true then bf to x.cz else x.cz,aA:=x.aA.map (gv to),others:=if 0<=x.others then bf to x.others else x.others }
structure Lg(n:Nat)(x:End):Prop where
 to:x.kind≠3/\x.kind≠4->0<=x.to/\x.to<n
 cz:aC [2,8] x.kind=true->0<=x.cz/\x.cz<n
 wh:∀ v∈x.aA,0<=v.to/\v.to<n
 oth:0<=x.others->x.others<n
 len:x.aA.length<=100000
structure LR(M m:Mem)(nx w:Nat)(es a8:List D):Prop where
 r0:M nx=some (.cells es 48)
 r1:M (nx+1)=some (.cells aaq 48)
 Ms:M w=some (.cells a8 82)
 IB:∀ k,k<nx->k≠w->M k=m k
def LR.SM{M m:Mem}{nx w:Nat}{es es' a8:List D}(h:LR M m nx w es a8)(C:w<nx):LR (up M nx (some (.cells es' 48))) m nx w es' a8:=
 ⟨ap _ _ _,aq oG h.r1,aq oG h.Ms,λk hk hn=>aq oG (h.IB k hk hn)⟩
def LR.upw{M m:Mem}{nx w:Nat}{es a8 C:List D}(h:LR M m nx w es a8)(J:w<nx):LR (up M w (some (.cells C 82))) m nx w es C:=
 ⟨aq oG h.r0,aq oG h.r1,ap _ _ _,λk hk hn=>aq hn (h.IB k hk hn)⟩
def alh{x:Abs.End}{to:List Int}{m:Mem}{nx w:Nat}(hw:w<nx)(hm:m w=some (.cells (x.aA.flatMap cK) 82))(h:Lg to.length x):iZ prog 119 [.agg (fw x (.rs w 0 x.aA.length)),av to] m nx λr m' aw=>r=.agg (fw (mI to x) (.rs w 0 x.aA.length))/\m' w=some (.cells ((x.aA.map (gv to)).flatMap cK) 82)/\(∀ k,k<nx->k≠w->m' k=m k)/\nx<=aw:=by
 let⟨h1,h2,h3,h4,h5⟩:=h
 have oW:∀ {r:Int},0<=r/\r<to.length->∃ k:Nat,∃ v,r=k/\to[k]? =some v/\bf to r=v:=λ{r} h=>by
  obtain⟨k,rfl⟩:=fc h.1;exact⟨k,_,rfl,aV oG,by simp[bf,dF,aV (show k<to.length by omega)]⟩
 obtain⟨hd,SN⟩:∃ hd,hd=D.rs w 0 x.aA.length:=⟨_,rfl⟩
 rw[<- SN];have di:hd.one=true:=by rw[SN];rfl
 refine y8 (fo f119) ?_;refine ws (cY (uf rfl) aB (by simp only[fw,all_cons,all_nil,di];rfl) (SS ?_));refine ab (cI (λst=>∃ M,LR M m nx w (fw { x with to:=if x.kind≠3/\x.kind≠4 then bf to x.to else x.to } hd) (x.aA.flatMap cK)/\aL prog st ⟨ay [(1,av to),(2,.rp nx 0),(4,.rp (nx+1) 0)],M,nx+1+1⟩) (aj ?_) ?_)
 .have an:∀ {a},up (up m nx (some (.cells (fw x hd) 48))) (nx+1) a nx=some (.cells (fw x hd) 48):=aq oG s3;have kd:(fw x hd).drop (0+0)=U8 x.kind::(fw x hd).drop 1:=rfl;have X:LR (up (up m nx (some (.cells (fw x hd) 48))) (nx+1) (some (.cells aaq 48))) m nx w (fw x hd) (x.aA.flatMap cK):=⟨aq oG s3,ap _ _ _,aq oG (aq oG hm),λk hk _=>aq oG (aq oG rfl)⟩
  refine cF ?_
  have hc:(if(x.kind !=3)=true then(x.kind !=4) else false)=decide (x.kind≠3/\x.kind≠4):=by
   by_cases h:x.kind=3<;>by_cases h':x.kind=4<;>simp[h,h']
  refine ab (au (g:=decide (x.kind≠3/\x.kind≠4)) (congrArg (λb=>D.s (.bool b)) hc) (λhp=>eI ?_) λhp=>bd ?_)
  .have hp:=of_decide_eq_true hp;let⟨U,v,ha,hv,e⟩:=oW (h1 hp);rw[bi hp,e];have kd:(fw x hd).drop (0+3)=I U::(fw x hd).drop 4:=by rw[<- ha];rfl
   refine cB ?_;exact bT (dM (d:=.s (.int _ _)) (cs':=fw { x with to:=v } hd) rfl rfl an rfl rfl) aB (bW t3 c3 ⟨rfl,aP rfl⟩ rfl) (ab ⟨_,X.SM hw,ao eH⟩)
  .have hp:=of_decide_eq_false hp;rw[ai hp];exact⟨_,X,ao eH⟩
 rintro st ⟨M,J,O⟩;refine⟨_,O,?_⟩;clear O h1;have e1:mI to x={ ({ x with to:=if x.kind≠3/\x.kind≠4 then bf to x.to else x.to }:Abs.End) with cz:=if aC [2,8] x.kind=true then bf to x.cz else x.cz,aA:=x.aA.map (gv to),others:=if 0<=x.others then bf to x.others else x.others }:=rfl;rw[e1];clear e1;generalize (if x.kind≠3/\x.kind≠4 then bf to x.to else x.to)=yt at*
 refine cI (λst=>∃ M,LR M m nx w (fw { x with to:=yt,cz:=if aC [2,8] x.kind=true then bf to x.cz else x.cz } hd) (x.aA.flatMap cK)/\aL prog st ⟨ay [(1,av to),(2,.rp nx 0),(4,.rp (nx+1) 0)],M,nx+1+1⟩) (aj ?_) ?_
 .have an:=J.r0;have kd:(fw { x with to:=yt } hd).drop (0+0)=U8 x.kind::(fw { x with to:=yt } hd).drop 1:=rfl;refine cF ?_
  have hc:(if(x.kind==2)=true then true else(x.kind==8))=aC [2,8] x.kind:=by
   simp only[aC,any_cons,any_nil,Bool.or_false];cases (x.kind==2)<;>rfl
  refine ab (au (g:=aC [2,8] x.kind) (congrArg (λb=>D.s (.bool b)) hc) (λhp=>eI ?_) λhp=>bd ?_)
  .let⟨U,v,ha,hv,e⟩:=oW (h2 hp);rw[bi hp,e];have kd:(fw { x with to:=yt } hd).drop (0+4)=I U::(fw { x with to:=yt } hd).drop 5:=by rw[<- ha];rfl
   refine cB ?_;exact bT (dM (d:=.s (.int _ _)) (cs':=fw { x with to:=yt,cz:=v } hd) rfl rfl an rfl rfl) aB (bW t3 c3 ⟨rfl,aP rfl⟩ rfl) (ab ⟨_,J.SM hw,ao eH⟩)
  .rw[ai (by rw[hp];simp)];exact⟨_,J,ao eH⟩
 clear J;rintro st ⟨M,J,O⟩;refine⟨_,O,aM (aF ?_)⟩;clear O h2;generalize (if aC [2,8] x.kind=true then bf to x.cz else x.cz)=ye at*
 have an:=J.r0;have kd:(fw { x with to:=yt,cz:=ye } hd).drop (0+13)=.rs w 0 x.aA.length::[I x.others]:=by rw[<- SN];rfl
 have dQ:=J.Ms;refine aX ?_
 refine ab (cJ (λst=>∃ M,LR M m nx w (fw { x with to:=yt,cz:=ye } hd) ((x.aA.map (gv to)).flatMap cK)/\aL prog st ⟨ay [(1,av to),(2,.rp nx 0),(4,.rp (nx+1) 0)],M,nx+1+1⟩) (gl (α:=Nat×Mem)
  (λs=>⟨ay [(1,av to),(2,.rp nx 0),(4,.rp (nx+1) 0),(36,I x.aA.length),(37,I s.1)],s.2,nx+1+1⟩)
  (λs=>s.1<=x.aA.length/\LR s.2 m nx w (fw { x with to:=yt,cz:=ye } hd) (((x.aA.take s.1).map (gv to)++x.aA.drop s.1).flatMap cK)) (λs=>x.aA.length - s.1) (0,M)
  (ao eH) ⟨Nat.zero_le _,J⟩ ?_) ?_)
 .clear an dQ J;rintro⟨k,M⟩ ⟨hk,J⟩;dsimp only at hk J ⊢;refine SS ?_;refine ab ⟨_,rfl,λh=>?_,λh=>?_⟩
  .have al:k<x.aA.length:=tn h
   clear h;let⟨v,hv⟩:=tS x.aA k al
   let⟨U,u,ha,hu,e⟩:=oW (h3 v (cL hv))
   have lP:((x.aA.take k).map (gv to)++x.aA.drop k).flatMap cK=((x.aA.take k).map (gv to)).flatMap cK++(cK v++(x.aA.drop (k+1)).flatMap cK):=by
    rw[flatMap_append,drop_eq_getElem_cons al,flatMap_cons,(bO.1 hv).2]
   have eh:((x.aA.take (k+1)).map (gv to)++x.aA.drop (k+1)).flatMap cK=((x.aA.take k).map (gv to)).flatMap cK++(cK (gv to v)++(x.aA.drop (k+1)).flatMap cK):=by
    rw[take_add_one,hv,map_append,flatMap_append,flatMap_append];simp
   have hA:(((x.aA.take k).map (gv to)).flatMap cK).length=k*2:=by
    rw[pd (sz:=2) (λ_=>rfl),length_map,length_take,Nat.min_eq_left hk]
   rw[lP] at J;clear lP;generalize ((x.aA.take k).map (gv to)).flatMap cK=A at*
   generalize (x.aA.drop (k+1)).flatMap cK=C at*
   refine ws (af ?_);refine ab (r8 iB ?_);have an:=J.r0;have dQ:=J.Ms;refine bg ?_;have kd:(A++(cK v++C)).drop (k*2+1)=I U::C:=z7 (j:=1) hA (by rw[<- ha];rfl);refine ax (fe rfl dQ kd a3) aB (fh t3 c3 kd) (aX ?_);refine bT (dM (d:=.s (.int _ _)) (cs':=A++(cK (gv to v)++C)) rfl rfl dQ rfl (B' (j:=1) hA (by rw[gv,e];rfl))) aB (bW t3 c3 ⟨rfl,by simp[hA];omega⟩ rfl) (bU bX (af ?_));exact ab (bA (k+1,_) (ao eH) ⟨oM,by dsimp only;rw[eh];exact J.upw hw⟩ oM)
  .have bJ:¬ k<x.aA.length:=tn h
   have:k=x.aA.length:=by omega
   subst this;rw[take_length,List.drop_length,append_nil] at J;exact⟨M,J,ao eH⟩
 clear an dQ J;rintro st ⟨M,J,O⟩;refine⟨_,O,?_⟩;clear O h3;refine cI (λst=>∃ M,LR M m nx w (fw { x with to:=yt,cz:=ye,others:=if 0<=x.others then bf to x.others else x.others } hd) ((x.aA.map (gv to)).flatMap cK)/\aL prog st ⟨ay [(1,av to),(2,.rp nx 0),(4,.rp (nx+1) 0)],M,nx+1+1⟩) (aj ?_) ?_
 .have an:=J.r0;have kd:(fw { x with to:=yt,cz:=ye } hd).drop (0+14)=I x.others::[]:=rfl;refine az ?_;refine ab (au rfl (λhp=>eI ?_) λhp=>bd ?_)
  .have hp:0<=x.others:=tn hp
   let⟨U,v,ha,hv,e⟩:=oW ⟨hp,h4 hp⟩;rw[bi hp,e];have kd:(fw { x with to:=yt,cz:=ye } hd).drop (0+14)=I U::[]:=by rw[<- ha];rfl
   refine cB ?_;exact bT (dM (d:=.s (.int _ _)) (cs':=fw { x with to:=yt,cz:=ye,others:=v } hd) rfl rfl an rfl rfl) aB (bW t3 c3 ⟨rfl,aP rfl⟩ rfl) (ab ⟨_,J.SM hw,ao eH⟩)
  .have hp:¬ 0<=x.others:=tn hp
   rw[ai hp];exact⟨_,J,ao eH⟩
 clear J;rintro st ⟨M,J,O⟩;refine⟨_,O,aj ?_⟩;clear O h4;generalize (if 0<=x.others then bf to x.others else x.others)=yo at*
 refine ax (dL (vs:=fw { x with to:=yt,cz:=ye,others:=yo } hd) rfl J.r0 FG rP rfl) aB (dN t48 rP (aP rfl)) (bT (eK (cs':=fw { x with to:=yt,cz:=ye,others:=yo } hd) rfl rfl J.r1 rfl) aB (bW t48 rP ⟨rfl,aP rfl⟩ (by simp only[fw,all_cons,all_nil,di];rfl)) (ab (jR (fT (cs:=fw { x with to:=yt,cz:=ye,others:=yo } hd) (vs:=fw { x with to:=yt,cz:=ye,others:=yo } hd) rfl s3 FG rP rfl t48 (aP rfl)) ⟨rfl,?_,λk hk hn=>?_,oM⟩)))
 .exact aq oG J.Ms
 .exact aq oG (J.IB k hk hn)
def alk{f:aO}{m:Mem}{nx:Nat}(h1:f.ag.length<=100000)(h2:f.aU.length<=100000)(h3:f.signals.length<=100000)(h4:f.blocks.length<=100000)(h5:∀ b∈f.blocks,uE b):
 iZ prog 102 [.agg (aG f)] m nx λd m' aw=>∃ r s w lo,nx<=lo/\lo<=r/\r<aw/\d=.agg (headD f (.rs r 0 f.blocks.length) (cH f.ag))/\m' r=some (.cells (tv f.blocks s w f.blocks.length) 69)/\BR m' lo r f.blocks s w f.blocks.length/\∀ k,k<nx->m' k=m k:=by
 have kR:=RA (l:=f.ag) h1;have kS:=RA (l:=f.aU) h2;have EL:=EL (l:=f.signals) h3;refine y8 (fo f102) ?_;refine ws (af ?_);refine ab (cI (λst=>∃ M:Mem,M nx=some (.cells (aG f) 26)/\M (nx+1)=some (.cells ef 26)/\(∀ k,k<nx->M k=m k)/\aL prog st ⟨ay [(1,.rp nx 0),(2,.rp (nx+1) 0)],M,nx+1+1⟩) (GD (ij [(2,3),(2,4),(2,6),(5,6),(2,7),(5,7),(5,9),(8,9)]) ?_) ?_)
 .have an:∀ {a},up (up m nx (some (.cells (aG f) 26))) (nx+1) a nx=some (.cells (aG f) 26):=aq oG s3;refine af ?_;refine z1 kR rfl aB (af ?_);refine z1 kS rfl aB (bG ?_);have an:∀ {M:Mem} {c},up M nx c nx=c:=ap _ _ _;refine aX ?_;refine bU bX ⟨_,ap _ _ _,?_,?_,ao eH⟩
  .repeat (first|exact ap _ _ _|apply aq oG)
  .intro k hk
   repeat (first|exact rfl|apply aq oG)
 rintro st ⟨M,O,q2,q4,J⟩;refine⟨_,J,aj ?_⟩;clear J;have an:=O;refine af ?_;apply wj (alg h4 h5) rfl aB;rintro d M' aw ⟨r,s,w,U,X,rfl,g3,g4,C⟩;dsimp[St.put];have an:=(C nx oG).trans O;refine SS ?_;refine bT (dM (d:=.rs _ _ _) (cs':=headD f (.rs r 0 f.blocks.length) (cH f.ag)) rfl rfl an rfl rfl) aB (bW t24 CO ⟨rfl,aP rfl⟩ rfl) (er (ax (dL (vs:=headD f (.rs r 0 f.blocks.length) (cH f.ag)) rfl s3 a26 iS rfl) aB (dN t26 iS (aP rfl)) (bT (eK (cs':=headD f (.rs r 0 f.blocks.length) (cH f.ag)) rfl rfl (aq oG ((C (nx+1) oG).trans q2)) rfl) aB (bW t26 iS ⟨rfl,aP rfl⟩ rfl) (ab (jR (fT (cs:=headD f (.rs r 0 f.blocks.length) (cH f.ag)) (vs:=headD f (.rs r 0 f.blocks.length) (cH f.ag)) rfl s3 a26 iS rfl t26 (aP rfl)) ⟨r,s,w,nx+1+1,oG,U,X,rfl,?_,?_,?_⟩)))))
 .dsimp only;exact aq oG (aq oG g3)
 .exact g4.mono (λi h h'=>aq oG (aq oG rfl)) (bK _)
 .intro k hk;dsimp only;exact aq oG (aq oG ((C k oG).trans (q4 k hk)))
def VN{α:Type}{r:α->α->Prop}(C:∀ a,¬ r a a)(O:∀ a b c,r a b->r b c->r a c):∀ {l m:List α},l.Pairwise r->m.Pairwise r->(∀ x,x∈l↔x∈m)->l=m
 |[],[],_,_,_=>rfl
 |[],b::m,_,_,h=>absurd ((h b).2 oS) oS
 |a::l,[],_,_,h=>absurd ((h a).1 oS) oS
 |a::l,b::m,hl,hm,h=>by
  rw[pairwise_cons] at hl hm
  have U:a=b:=by
   rcases mem_cons.1 ((h a).1 oS) with e|e
   .exact e
   .rcases mem_cons.1 ((h b).2 oS) with J|J
    .exact J.symm
    .exact absurd (O _ _ _ (hl.1 _ J) (hm.1 _ e)) (C _)
  subst U;congr 1;refine VN C O hl.2 hm.2 λx=>⟨λhx=>?_,λhx=>?_⟩
  .rcases mem_cons.1 ((h x).1 (by simp[hx])) with e|e
   .subst e;exact absurd (hl.1 _ hx) (C _)
   .exact e
  .rcases mem_cons.1 ((h x).2 (by simp[hx])) with e|e
   .subst e;exact absurd (hm.1 _ hx) (C _)
   .exact e
def X8{l:List Int}{v:Int}{k:Nat}(hx:l[k]? =some v)(h:∀ (j:Nat) y,j<k->l[j]? =some y->y≠v):l.idxOf v=k:=by
 have hk:k<l.length:=(bO.1 hx).1;have hm:v∈l:=cL hx;have hi:l.idxOf v<l.length:=idxOf_lt_length_of_mem hm;have h2:l[l.idxOf v]? =some v:=by rw[aV hi,getElem_idxOf hi]
 have h1:¬ l.idxOf v<k:=λc=>h _ _ c h2 rfl
 have C:¬ k<l.idxOf v:=λc=>by
  have:=List.not_of_lt_findIdx (xs:=l) (p:=(·==v)) (i:=k) c;rw[aV hk] at hx;simp at hx;simp[hx] at this
 omega
def aim{l:List Int}{v:Int}(h:v∈l):l[l.idxOf v]? =some v:=by
 rw[aV (idxOf_lt_length_of_mem h),getElem_idxOf]
def aoY{l:List Int}(hl:l.length<=100000):mV prog 88 [av l] (l.map I) l.length 3:=by
 have C:(l.map I).length=l.length*1:=by simp
 refine y6 (fo f88) (.cons (cR l) .nil) (.map λ_=>.s _) ?_;refine ws (SS ?_);have J:(l.map I).take (l.length*1)=l.map I:=cW (Nat.le_of_eq C)
 have last:AW prog nk true (.seq (.region 3 (Z zO 3) false) .ret) (lE prog [.tmp 2] λd st=>∃ i,d=.rs i 0 l.length/\st.mem i=some (.cells (l.map I) 3)) ⟨ay [(0,av l)],λ_=>none,0⟩:=by
  refine ws (af ?_);refine gf (fW rfl rfl rfl dC c3 (jE J) rfl) aB ⟨dK,rfl,Nat.le_of_eq C.symm,oC,rfl,by unfold maxLen;omega,by rw[b3];omega,oS⟩ (SS ?_);exact ab (aD (d:=.rs 1 0 (0+l.length)) rfl ⟨1,by rw[Nat.zero_add],rfl⟩)
 refine ab (cI (λs=>aL prog s ⟨ay [(0,av l)],λ_=>none,0⟩) (aj ?_) λs hg=>⟨_,hg,last⟩)
 cases l with
 |nil=>
  refine ax (jI (v:=.sl [] 0) rfl) aB aa (ax (G3 rfl) aB dK (ab (GF rfl (aF ?_) (bd (ao eH)))));refine SS ?_;exact ab ⟨_,.mz _ _ _ 2 3 rfl,bD (bc (aD rfl ⟨_,rfl,rfl⟩))⟩
 |cons a l=>
  have O:(a::l).length≠0:=by simp
  exact ax (jI (v:=.sl _ _) rfl) aB aa (ax (G4 rfl O) aB dK (ab (au rfl (λh=>oH) λh=>bd (ao eH))))
def Mt{l:List Int}{v:Int}(h:v∈l):aE prog 99 [av l,I v] (I (l.idxOf v)):=by
 have C:∀ x∈[av l,I v],Tr x:=.cons (cR _) fl;refine qP (fo f99).he C λO=>?_;have hlen:=(O (av l) oS).sl.1;unfold maxLen at hlen;refine bN (fo f99) C (Tr.s _) ?_;refine ws (SS ?_);refine ab (aM (aF (az ?_)))
 refine ab (cJ (λs=>aL prog s ⟨ay [],λ_=>none,0⟩/\∀ (j:Nat) y,l[j]? =some y->y≠v) (gl (α:=Nat) (λk=>⟨ay [(0,av l),(1,I v),(7,I l.length),(8,I k)],λ_=>none,0⟩)
  (λk=>k<=l.length/\∀ (j:Nat) y,j<k->l[j]? =some y->y≠v) (λk=>l.length - k) 0 (ao eH) ⟨oG,λj y hj=>by omega⟩ ?_) ?_)
 .rintro k ⟨hk,hinv⟩;refine SS ?_;refine ab ⟨_,rfl,λh=>?_,λh=>?_⟩
  .have al:k<l.length:=tn h
   have hx:l[k]? =some l[k]:=by simp[al]
   generalize l[k]=x at hx;refine ws (af ?_);refine er (cB ?_);refine ab (au rfl (λhp=>?_) λhp=>?_)
   .refine ws (af ?_);refine ab (bD (dd (bc (aD rfl ?_))))
    have e:x=v:=by have:v=x:=tn hp
                   exact this.symm
    subst e;rw[X8 hx hinv];rfl
   .refine eQ (af ?_);refine ab (bA (k+1) (ao eH) ⟨oG,λj y hj hy=>?_⟩ oG);by_cases e:j=k
    .subst e;rw[hx] at hy;cases hy;exact λc=>by subst c;simp at hp
    .exact hinv j y oG hy
  .have U:¬ k<l.length:=tn h
   exact⟨.forget _ _ _ _ λ_=>.inr rfl,λj y hy=>hinv j y (by have:=(bO.1 hy).1;omega) hy⟩
 .rintro s ⟨hg,J⟩;let⟨k,hk⟩:=dW h;exact absurd rfl (J k v hk)
def ao0{x:Ins}{L:List (List Int)}{i:Nat}{l:List Int}{p a:Int}(C:L[i]? =some l)(hp:p∈l)(ha:x.args[l.idxOf p]? =some a):aE prog 122 [I p,.pt (aI x),.pt [cr L],.pt [I i]] (I a):=by
 have Mt:=Mt hp;generalize l.idxOf p=q at Mt ha;refine bN (fo f122) (.cons (.s _) (.cons (.pt (jP _)) (.cons (.pt (.cons (DG _) .nil)) (.cons (.pt fl) .nil)))) (Tr.s _) ?_;refine ws (SS ?_);refine ab (eJ (ij [(0,7),(1,7)]) ?_);refine bg ?_;refine af ?_;exact bU bX (aD rfl rfl)
def oJ(c l:List Int)(v:Int)(k:Nat):List Int:=((range k).filter λj=>c[j]? ==some v).map λj=>l.getD j 0
def Hh(c l:List Int):List Int:=(nQ c).flatMap λv=>oJ c l v c.length
def adE{c l:List Int}{v x y:Int}{k:Nat}(hx:c[k]? =some x)(hy:l[k]? =some y):oJ c l v (k+1)=oJ c l v k++(if x=v then [y] else []):=by
 rw[oJ,range_succ,filter_append,map_append];congr 1;by_cases e:x=v
 .subst e;simp[hx,hy,dF]
 .simp[hx,e]
def UJ{c l:List Int}{v:Int}{k:Nat}:(oJ c l v k).length<=k:=by
 rw[oJ,length_map];exact Nat.le_trans (length_filter_le _ _) oS
def kT(c l o:List Int)(i:Nat)(v:Int)(k:Nat):List Int:=((o.take i).flatMap λv=>oJ c l v c.length)++oJ c l v k
def WU{f:Int->List Int}{n:Nat}(h:∀ x,(f x).length<=n):∀ {l:List Int},(l.flatMap f).length<=n*l.length
 |[]=>by simp
 |x::l=>by
  rw[flatMap_cons,length_append,length_cons,Nat.mul_succ];have:=h x;have:=WU h (l:=l);omega
def agN{c l o:List Int}{i k:Nat}{v:Int}(hc:c.length<=100000):(kT c l o i v k).length<=100000*i+k:=by
 rw[kT,length_append];have:=UJ (c:=c) (l:=l) (v:=v) (k:=k);have:=WU (f:=λv=>oJ c l v c.length) (n:=100000) (λ_=>Nat.le_trans UJ hc) (l:=o.take i);have:(o.take i).length<=i:=by simp;omega
 omega
def RF{c l:List Int}(hc:c.length<=100000)(hl:c.length<=l.length):aE prog 123 [av c,av l] (av (Hh c l)):=by
 refine bN (fo f123) (.cons (cR _) (.cons (cR _) .nil)) (cR _) ?_;refine ws ?_;refine SS ?_;refine ab (aF ?_);refine SS ?_;refine ab ⟨_,(aL.mz _ _ _ 5 3 rfl).trans (cE [(0,[],3)] ⟨ap _ _ _,aa⟩ (l:=[(0,av c),(1,av l),(5,av [])]) ⟨rfl,rfl,kN (sz:=1) c3 rfl,aa⟩),aM (aF ?_)⟩;refine SS ?_
 refine ab (cJ (λs=>aL prog s ⟨ay [(0,av c),(1,av l),(5,av (nQ c))],λ_=>none,1⟩) (dS (α:=Nat)
  (λk=>⟨ay [(0,av c),(1,av l),(5,av ((c.take k).foldl jy [])),(6,I k)],λ_=>none,1⟩)
  (λk=>k<=c.length) (λk=>c.length - k) 0 (ao eH) (Nat.zero_le _) ?_) ?_)
 .intro k hk;refine aX ?_;refine ab ⟨_,rfl,λh=>?_,λh=>?_⟩
  .have al:k<c.length:=by simpa using h
   obtain⟨x,hx⟩:∃ x,c[k]? =some x:=⟨_,aV al⟩
   have hs:(c.take (k+1)).foldl jy []=jy ((c.take k).foldl jy []) x:=by
    rw[List.take_add_one,hx,List.foldl_append];rfl
   have hb:=(zv (l:=c.take k) (z:=[]) .nil).2.2;have Au:=Au (l:=(c.take k).foldl jy []) (n:=x) (by simp at hb;omega);rw[<- hs] at Au;generalize (c.take k).foldl jy []=zQ at Au;clear hs hb h;refine gE ?_;refine bG ?_;refine cl Au ?_;refine SS ?_;refine ab ?_;refine az ?_;exact ab (bA (k+1) (ao eH) oG oG)
  .have O:¬ k<c.length:=by simpa using h
   have:k=c.length:=by omega
   subst this;rw[List.take_length];exact ao eH
 intro s hg;have J:=(zv (l:=c) (z:=[]) .nil).2.2;unfold Hh;have J:(nQ c).length<=100000:=by unfold nQ;simp at J;omega
 generalize nQ c=o at hg J;refine⟨_,hg,aF ?_⟩;refine SS ?_;refine ab ⟨_,.mz _ _ _ 7 3 rfl,aM (aF ?_)⟩;refine SS ?_
 refine ab (cJ (λs=>∃ r m nx,aL prog s ⟨ay [(7,.rs r 0 (o.flatMap λv=>oJ c l v c.length).length)],m,nx⟩/\m r=some (.cells ((o.flatMap λv=>oJ c l v c.length).map I) 3)) (dS (α:=Nat×Nat×Mem×Nat)
  (λs=>⟨ay [(0,av c),(1,av l),(5,av o),(7,.rs s.2.1 0 (kT c l o s.1 0 0).length),(8,I s.1)],s.2.2.1,s.2.2.2⟩)
  (λs=>s.1<=o.length/\s.2.1<s.2.2.2/\s.2.2.1 s.2.1=some (.cells ((kT c l o s.1 0 0).map I) 3)) (λs=>o.length - s.1) (0,_,_,_)
  (ao eH) ⟨Nat.zero_le _,Nat.lt_succ_self _,rfl⟩ ?_) ?_)
 .rintro⟨i,r,m,nx⟩ ⟨hi,hr,an⟩;dsimp only at hi hr an ⊢;refine aX ?_;refine ab ⟨_,rfl,λh=>?_,λh=>?_⟩
  .have al:i<o.length:=by simpa using h
   obtain⟨v,hv⟩:∃ v,o[i]? =some v:=⟨_,aV al⟩
   clear h;refine aF ?_;refine SS ?_
   refine ab (dS (α:=Nat×Nat×Mem×Nat)
    (λs=>⟨ay [(0,av c),(1,av l),(5,av o),(7,.rs s.2.1 0 (kT c l o i v s.1).length),(8,I i),(9,I s.1)],s.2.2.1,s.2.2.2⟩)
    (λs=>s.1<=c.length/\s.2.1<s.2.2.2/\s.2.2.1 s.2.1=some (.cells ((kT c l o i v s.1).map I) 3)) (λs=>c.length - s.1) (0,r,m,nx)
    (ao eH) ⟨Nat.zero_le _,hr,an⟩ ?_)
   clear an hr;rintro⟨k,r,m,nx⟩ ⟨hk,hr,an⟩;dsimp only at hk hr an ⊢;refine aX ?_;refine ab ⟨_,rfl,λh=>?_,λh=>?_⟩
   .have jo:k<c.length:=by simpa using h
    clear h;obtain⟨x,hx⟩:∃ x,c[k]? =some x:=⟨_,aV jo⟩
    obtain⟨y,hy⟩:∃ y,l[k]? =some y:=⟨_,aV oG⟩
    have hs:kT c l o i v (k+1)=kT c l o i v k++(if x=v then [y] else []):=by
     unfold kT;rw[adE hx hy,List.append_assoc]
    have hb:=agN (l:=l) (o:=o) (i:=i) (v:=v) (k:=k) hc;have U:x≠v->kT c l o i v (k+1)=kT c l o i v k:=λe=>by rw[hs,ai e,List.append_nil]
    have C:x=v->(kT c l o i v (k+1)).map I=(kT c l o i v k).map I++[I y]:=λe=>by rw[hs,bi e,List.map_append];rfl
    have jB:x=v->(kT c l o i v (k+1)).length=(kT c l o i v k).length+1:=λe=>by rw[hs,bi e,List.length_append];rfl
    clear hs;have X:((kT c l o i v k).map I).length=(kT c l o i v k).length:=List.length_map _;generalize kT c l o i v k=zQ at*
    refine eJ iB ?_;refine bg ?_;refine bU bX (au rfl (λhp=>?_) λhp=>?_)
    .have e:x=v:=by simpa using hp
     replace C:=C e;generalize zQ.map I=ds at*
     generalize zQ.length=n at*
     refine gE ?_;refine cF ?_;refine ab ?_;refine az ?_;refine ab (bA (k+1,nx+1,_,_) (ao ⟨rfl,rfl,rfl,congrArg (D.rs (nx+1) 0) (jB e).symm,rfl,rfl,aa⟩) ⟨oM,oM,?_⟩ oM);dsimp only;rw[C];exact ap _ _ _
    .have e:x≠v:=by simpa using hp
     refine eQ ?_;refine az ?_;exact ab (bA (k+1,r,m,nx) (ao ⟨rfl,rfl,rfl,congrArg (λw:List Int=>D.rs r 0 w.length) (U e).symm,rfl,rfl,aa⟩) ⟨oM,hr,by dsimp only;rw[U e];exact an⟩ oM)
   .have O:¬ k<c.length:=by simpa using h
    have:k=c.length:=by omega
    subst this
    have hs:kT c l o (i+1) 0 0=kT c l o i v c.length:=by
     unfold kT;rw[List.take_add_one,hv,List.flatMap_append];simp[oJ]
    refine az ?_;exact ab (bA (i+1,r,m,nx) (ao ⟨rfl,rfl,rfl,congrArg (λw:List Int=>D.rs r 0 w.length) hs.symm,rfl,aa⟩) ⟨oM,hr,by dsimp only;rw[hs];exact an⟩ oM)
  .have O:¬ i<o.length:=by simpa using h
   have:i=o.length:=by omega
   subst this
   have hs:kT c l o o.length 0 0=o.flatMap λv=>oJ c l v c.length:=by
    unfold kT;rw[List.take_length];simp[oJ]
   rw[hs] at an ⊢;exact⟨r,m,nx,ao eH,an⟩
 .rintro s ⟨r,m,nx,hg,an⟩;generalize (o.flatMap λv=>oJ c l v c.length)=zQ at*
  refine⟨_,hg,aF ?_⟩;refine af ?_;refine ab (bF (cE [(r,_,3)] ⟨an,aa⟩ (l:=[(4,av zQ)]) ⟨?_,aa⟩) (aD rfl rfl));exact(kN c3 (es:=zQ.map I) (by rw[Nat.mul_one,List.drop_zero,cW oS])).trans oS
def filter_one{p:Nat->Bool}{k:Nat}(hp:∀ j,p j=decide (j=k)):∀ n,(range n).filter p=if k<n then [k] else []
 |0=>by simp
 |n+1=>by
  rw[range_succ,filter_append,filter_one hp n];by_cases e:n=k
  .subst e;simp[hp]
  .by_cases h:k<n
   .rw[bi h,bi oG];simp[hp,e]
   .rw[ai h,ai oG];simp[hp,e]
def afL{l:List Int}{v:Int}{k:Nat}(hn:l.Nodup)(hx:l[k]? =some v):l.idxOf v=k:=by
 refine X8 hx λj y hj hy e=>?_;subst e;let⟨h1,C⟩:=bO.1 hy;let⟨h2,e2⟩:=bO.1 hx;exact pairwise_iff_getElem.1 hn j k h1 h2 hj (C.trans e2.symm)
def ain{a s to l:List Int}(C:∀ p,p∈s↔p∈a)(hs:s.Pairwise λp q=>bf to p<bf to q)(hn:a.Nodup)(O:∀ p∈a,∀ q∈a,bf to p=bf to q->p=q):
 s.map (λp=>l.getD (a.idxOf p) 0)=Hh (a.map (bf to)) l:=by
 have hp:nQ (a.map (bf to))=s.map (bf to):=by
  unfold nQ;let⟨h1,h2,_⟩:=zv (l:=a.map (bf to)) (z:=[]) .nil;refine VN (r:=λx y:Int=>x<y) (λ_=>Int.lt_irrefl _) (λ_ _ _=>Int.lt_trans) h1 (pairwise_map.2 hs) λx=>?_;rw[h2];simp[mem_map,C,not_mem_nil,false_or]
 rw[Hh,hp,List.flatMap_map]
 have:∀ p∈s,oJ (a.map (bf to)) l (bf to p) (a.map (bf to)).length=[l.getD (a.idxOf p) 0]:=λp U=>by
  have J:=(C p).1 U;have hk:=idxOf_lt_length_of_mem J;have hg:=aim J;rw[oJ,filter_one (k:=a.idxOf p) (λj=>?_),bi (by rw[length_map];exact hk)]
  .rfl
  .by_cases e:j=a.idxOf p
   .subst e;simp[hg]
   .rw[decide_eq_false e];cases hj:a[j]? with
    |none=>simp[hj]
    |some q=>
     have hq:bf to q≠bf to p:=λc=>e (by
      have:=O q (cL hj) p J c;subst this
      exact(afL hn hj).symm)
     simp[hj,hq]
 clear hp hs C
 induction s with
 |nil=>rfl
 |cons p s ih=>
  rw[flatMap_cons,map_cons,this p oS,ih λq hq=>this q (by simp[hq])];rfl
def eP(to A:List Int)(x:Ins):Ins:=if x.op=19 then { x with args:=Hh (A.map (bf to)) x.args } else x
def FJ(f:aO)(to:List Int)(i:Nat)(b:bH):bH:=⟨b.ins.map (eP to (cA f.blocks f.blocks.length i)),mI to b.fin⟩
def jz(f:aO)(to:List Int)(k:Nat):List bH:=(range k).foldl (λacc (i:Nat)=>acc.set (bf to (i:Int)).toNat (FJ f to i (f.blocks.getD i jx))) (replicate f.blocks.length jx)
def UL{f:aO}{to:List Int}{k:Nat}{b:bH}(hb:f.blocks[k]? =some b):jz f to (k+1)=(jz f to k).set (bf to k).toNat (FJ f to k b):=by
 unfold jz;rw[List.range_succ,List.foldl_append,List.foldl_cons,List.foldl_nil,show f.blocks.getD k jx=b by simp[dF,hb]]
def Gw{f:aO}{to:List Int}:∀ k,(jz f to k).length=f.blocks.length
 |0=>by simp[jz]
 |k+1=>by
  have ih:=Gw (f:=f) (to:=to) k;unfold jz at*
  rw[range_succ,foldl_append,foldl_cons,foldl_nil,length_set,ih]
def uG(f:aO)(to:List Int):aO:={ f with blocks:=jz f to f.blocks.length }
def tH(f:aO)(to:List Int):Int:=if fL f=0 then(if lX to f.blocks.length 1 then 0 else 1) else fL f
def ad0{f:aO}{x:End}(h:jJ f x=true):(0<=x.others->aC [5,6,8] x.kind=true)/\(aC [3,4] x.kind=true->x.aA=[]):=by
 rw[jJ,aH] at h;let⟨h,hb⟩:=h;have hb:=JW hb;let⟨kind,a,b,to,cz,name,ins,args,aA,others⟩:=x;simp only[gZ] at h hb;by_cases O:kind=5
 .subst O;simp[aC]
 by_cases U:kind=6
 .subst U;simp[aC]
 by_cases h8:kind=8
 .subst h8;simp[aC]
 have key:others= -1/\aA.length=0:=by
  by_cases h1:kind=1
  .subst h1;simp only[if_true] at hb;exact⟨hb.2.2.2.2.2.1,hb.2.2.2.2.2.2.2⟩
  by_cases h2:kind=2
  .subst h2;simp only[Int.reduceEq,if_false,if_true] at hb;exact⟨hb.2.2.2.2.2.1,hb.2.2.2.2.2.2.2⟩
  by_cases C:kind=3
  .subst C;simp only[Int.reduceEq,if_false,if_true] at hb;exact⟨hb.2.2.2.2.2.1,hb.2.2.2.2.2.2.2⟩
  by_cases J:kind=4
  .subst J;simp only[Int.reduceEq,if_false,if_true] at hb;exact⟨hb.2.2.2.2.2.1,hb.2.2.2.2.2.2.2⟩
  by_cases X:kind=7
  .subst X;simp only[Int.reduceEq,if_false,if_true] at hb;exact⟨hb.2.2.2.2.2.1,hb.2.2.2.2.2.2.2⟩
  by_cases h9:kind=9
  .subst h9;simp only[Int.reduceEq,if_false,if_true] at hb;exact⟨hb.2.2.2.2.2.1,hb.2.2.2.2.2.2.2⟩
  .simp[h1,h2,C,J,O,U,X,h8,h9] at h
 exact⟨λh0=>by dsimp only at h0;omega,λ_=>length_eq_zero_iff.1 key.2⟩
structure JU(f:aO):Prop where
 ok:D8 f
 l3:f.signals.length<=100000
 blk:∀ b∈f.blocks,uE b
 led:∀ b∈f.blocks,Lg f.blocks.length b.fin
 AZ:∀ (i:Nat) b,f.blocks[i]? =some b->∀ (j:Nat) y,b.ins[j]? =some y->y.op=19->y.args.length=(cA f.blocks f.blocks.length i).length/\∀ (k:Nat) z,k<=j->b.ins[k]? =some z->z.op=19
def aip{f:aO}(ze:nK f=true)(h:fL f=0):JU f:=by
 have hb:=JC h;have C:=KK hb;let⟨h1,h2,h3⟩:=TC hb;refine⟨C,oG,UN ze,λb U=>?_,λi b X j y hy dm=>?_⟩
 .have O:=C.ends b U;let⟨m1,m2⟩:=ad0 (h1 b U);have hw:=O.wh;have J:=O.to;refine⟨λhk=>J _ ?_,λhk=>J _ ?_,λv hv=>?_,λh0=>(J _ ?_).2,oG⟩
  .have:aC [3,4] b.fin.kind=false:=by simp[aC];exact hk
   simp[dI,this]
  .have:aC [3,4] b.fin.kind=false:=by simp[aC] at hk ⊢;omega
   simp[dI,this,hk]
  .cases hk:aC [3,4] b.fin.kind with
   |true=>rw[m2 hk] at hv;cases hv
   |false=>
    apply J _;simp[dI,hk,Bool.false_eq_true,if_false,mem_cons,mem_append,mem_map];exact .inr (.inr (.inl ⟨v,hv,rfl⟩))
  .have hk:=m1 h0;have w9:aC [3,4] b.fin.kind=false:=by simp[aC] at hk ⊢;omega
   simp[dI,w9,jD,hk,h0]
 .have hr:=C.right i b X j y hy;let⟨_,g⟩:=Nc C.ag C.aU.1 C.aU.2 hr;let⟨g1,g2,_⟩:=g dm;refine⟨oG,λk z hk hz=>?_⟩;have L8:(b.ins.take (j+1))[k]? =some z:=by rw[getElem?_take,bi oG,hz]
  have:=cm.1 g2 z (cL L8);simpa[cP] using this
section
def um(l:List bH)(s w:Nat->Nat)(i:Nat):List D:=((range l.length).drop i).flatMap λj=>kC (l.getD j jx) (s j) (w j)
variable{l:List bH}
def aio{s w:Nat->Nat}:tv l s w l.length=um l s w 0:=rfl
variable{i:Nat}{b:bH}
def Ud{l:List bH}{s w:Nat->Nat}{i:Nat}{b:bH}(hb:l[i]? =some b):um l s w i=kC b (s i) (w i)++um l s w (i+1):=by
 have hi:i<l.length:=(bO.1 hb).1;unfold um;rw[List.drop_eq_getElem_cons (by simpa using hi),List.flatMap_cons,List.getElem_range,show l.getD i jx=b by simp[dF,hb]]
structure MV(M:Mem)(f:aO)(out:List bH)(lo r g q:Nat)(s w:Nat->Nat)(i:Nat):Prop where
 r2:M 2=some (.cells ef 26)
 rg:M g=some (.cells (headD f (.rs r 0 f.blocks.length) (cH f.ag)) 26)
 rq:M q=some (.cells (out.flatMap bq) 69)
 rr:∃ pre,pre.length=i*16/\M r=some (.cells (pre++um f.blocks s w i) 69)
 br:∀ j,i<=j->j<f.blocks.length->lo<=s j/\s j<w j/\w j<r
 sw:∀ j k,i<=j->j<k->k<f.blocks.length->w j<s k
 ms:∀ (j:Nat) b,f.blocks[j]? =some b->i<=j->M (s j)=some (.cells (b.ins.flatMap aI) 45)
 mw:∀ (j:Nat) b,f.blocks[j]? =some b->i<=j->M (w j)=some (.cells (b.fin.aA.flatMap cK) 82)
 o1:2<lo
 o2:lo<=r
 o3:r<g
 o4:g<q
variable{M:Mem}{f:aO}{out:List bH}{lo q:Nat}
def MV.mono{M':Mem}{r g:Nat}{s w:Nat->Nat}(h:MV M f out lo r g q s w i)(hm:∀ j,j=2\/lo<=j/\j<=q->M' j=M j):MV M' f out lo r g q s w i:=by
 have h1:=h.o1;have h2:=h.o2;have C:=h.o3;have J:=h.o4;refine⟨by rw[hm _ oG];exact h.r2,by rw[hm _ oG];exact h.rg,by rw[hm _ oG];exact h.rq,?_,h.br,h.sw,λj b hb hj=>?_,λj b hb hj=>?_,h1,h2,C,J⟩
 .let⟨pre,hp,hr⟩:=h.rr;exact⟨pre,hp,by rw[hm _ oG];exact hr⟩
 .have:=h.br j hj (bO.1 hb).1;rw[hm _ oG];exact h.ms j b hb hj
 .have:=h.br j hj (bO.1 hb).1;rw[hm _ oG];exact h.mw j b hb hj
def MV.next{r g:Nat}{s w:Nat->Nat}(h:MV M f out lo r g q s w i)(hb:f.blocks[i]? =some b):MV M f out (w i+1) r g q s w (i+1):=by
 have h1:=h.o1;have h2:=h.o2;have J:=h.o3;have O:=h.o4;have hi:i<f.blocks.length:=(bO.1 hb).1;have hB:=h.br i (bK _) hi;refine⟨h.r2,h.rg,h.rq,?_,λj U C=>?_,λj k U C X=>h.sw j k oG C X,λj b hb hj=>h.ms j b hb oG,λj b hb hj=>h.mw j b hb oG,oG,oG,J,O⟩
 .let⟨pre,hp,hr⟩:=h.rr;refine⟨pre++kC b (s i) (w i),by rw[length_append,hp];simp[kC,fw];omega,?_⟩;rw[hr,Ud hb,append_assoc]
 .have:=h.br j oG C;have:=h.sw i j (bK _) oG C;omega
def Ue{X:Nat->Prop}{s w:Nat}(h1:¬ X s)(h2:¬ X w):∀ d∈kC b s w,jw X d:=λd hd=>by
 simp[kC,fw,mem_cons,not_mem_nil,or_false] at hd;rcases hd with rfl|rfl|rfl|rfl|rfl|rfl|rfl|rfl|rfl|rfl|rfl|rfl|rfl|rfl|rfl|rfl<;>first|exact .rs h1|exact .s _|exact .sl _ _|exact .rs h2
def UM{X:Nat->Prop}{l:List D}(h:∀ d∈l,jw X d)(hi:X i){cs:List D}{sz:Nat}:l.map (sub (cZ i cs sz))=l:=by
 induction l with
 |nil=>rfl
 |cons d l ih=>rw[map_cons,h d oS i cs sz hi,ih λd hd=>h d (by simp[hd])]
def TQ{X:Nat->Prop}(l:List iO){e:TypeId}:nL X (.cells (l.flatMap cK) e):=xz (λx d hd=>by
 simp[cK,mem_cons,not_mem_nil,or_false] at hd
 rcases hd with rfl|rfl<;>exact .s _) l
def MV.qJ{r g:Nat}{s w:Nat->Nat}{i p sz:Nat}{cs:List D}(h:MV M f out lo r g q s w i)(hp:p<lo\/q<p)(h2:p≠2):MV (ig p cs sz M) f out lo r g q s w i:=by
 have h1:=h.o1;have J:=h.o2;have O:=h.o3;have U:=h.o4;refine⟨kx h.r2 oG (.cells F3),kx h.rg oG (.cells (Np (.rs oG) (.sl _ _))),kx h.rq oG (xz I7 _),?_,h.br,h.sw,λj b hb hj=>?_,λj b hb hj=>?_,h1,J,O,U⟩
 .let⟨pre,jn,hr⟩:=h.rr;refine⟨pre.map (sub (cZ p cs sz)),by rw[length_map,jn],?_⟩;rw[ig,ai oG,hr];show some (Row.cells ((pre++um f.blocks s w i).map _) 69)=_
  have C:∀ d∈um f.blocks s w i,jw (λk=>k=p) d:=λd hd=>by
   unfold um at hd;let⟨j,hj,hd⟩:=mem_flatMap.1 hd;let⟨k,hk⟩:=dW hj;rw[getElem?_drop] at hk;let⟨lM,e⟩:=bO.1 hk;rw[List.getElem_range] at e;rw[length_range] at lM;have:=h.br j oG oG;exact Ue (X:=λk=>k=p) (λ(e:s j=p)=>by omega) (λ(e:w j=p)=>by omega) d hd
  rw[map_append,UM C rfl]
 .have:=h.br j hj (bO.1 hb).1;exact kx (h.ms j b hb hj) oG (xz Jo _)
 .have:=h.br j hj (bO.1 hb).1;exact kx (h.mw j b hb hj) oG (TQ _)
def MV.put{C:List bH}{r g:Nat}{s w:Nat->Nat}(h:MV M f out lo r g q s w i):MV (up M q (some (.cells (C.flatMap bq) 69))) f C lo r g q s w i:=by
 have h1:=h.o1;have J:=h.o2;have O:=h.o3;have U:=h.o4;refine⟨aq oG h.r2,aq oG h.rg,ap _ _ _,?_,h.br,h.sw,λj b hb hj=>?_,λj b hb hj=>?_,h1,J,O,U⟩
 .let⟨pre,hp,hr⟩:=h.rr;exact⟨pre,hp,aq oG hr⟩
 .have:=h.br j hj (bO.1 hb).1;exact aq oG (h.ms j b hb hj)
 .have:=h.br j hj (bO.1 hb).1;exact aq oG (h.mw j b hb hj)
def NW{α:Type}(f:α->List D)(x:α):∀ n,dp n (f x)=(replicate n x).flatMap f
 |0=>rfl
 |n+1=>by
  have:=NW f x n;unfold dp at*
  rw[replicate_succ,flatten_cons,this,replicate_succ,flatMap_cons]
def xg:List D->List D->Prop
 |[],[]=>True
 |a::xs,b::ys=>Wk a b/\xg xs ys
 |_,_=>False
def JV:∀ {xs ys:List D},xg xs ys->ys.length=xs.length/\∀ (k:Nat) (d d':D),xs[k]? =some d->ys[k]? =some d'->Wk d d'
 |[],[],_=>⟨rfl,λk d d' h=>by simp at h⟩
 |a::xs,b::ys,h=>by
  let⟨h1,h2⟩:=JV h.2;refine⟨by simp[h1],λk d d' hd C=>?_⟩;cases k with
  |zero=>simp at hd C;subst hd C;exact h.1
  |succ k=>simp at hd C;exact h2 k d d' hd C
def W8:∀ {xs ys cs ds:List D},xg xs ys->xg cs ds->xg (xs++cs) (ys++ds)
 |[],[],_,_,_,h=>h
 |_::_,_::_,_,_,h,h'=>⟨h.1,W8 h.2 h'⟩
def V1{xs ys:List D}(h:xg xs ys):∀ n,xg (dp n xs) (dp n ys)
 |0=>trivial
 |n+1=>by
  have ih:=V1 h n;unfold dp at*
  rw[replicate_succ,replicate_succ,flatten_cons,flatten_cons];exact W8 h ih
def ajE:xg uh (bq jx):=⟨yK,lT _,lT _,lT _,lT _,lT _,lT _,lT _,lT _,lT _,lT _,lT _,yK,yK,yK,lT _,aa⟩
def Uc{P:Program}{l:List (Nat×D)}{m:Mem}{nx n:Nat}(hm:m q=some (.cells (dp n uh) 69)):aL P ⟨ay l,m,nx⟩ ⟨ay l,up m q (some (.cells ((replicate n jx).flatMap bq) 69)),nx⟩:=by
 refine .sE _ _ _ _ _ (λt=>lT _) λi=>?_;by_cases hi:i=q
 .subst hi;let⟨h1,h2⟩:=JV (V1 ajE n);refine .inr ⟨_,_,69,hm,ap _ _ _,?_,?_⟩
  .rw[<- NW];exact h1
  .rw[<- NW];exact h2
 .exact .inl (aW _ _ hi)
end
end Go.Abs
end
