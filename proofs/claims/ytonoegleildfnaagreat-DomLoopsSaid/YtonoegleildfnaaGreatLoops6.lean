/- Part 6 of the proof; the last part says what is proved. -/
import Derived.Test.YtonoegleildfnaaGreatLoops5
section
open Go Go.Abs Go.Proofs Go.Argus
namespace Go.Abs
theorem aar{ρ:Nat->Nat}{L:Nat->List D}{k r:Nat}{l:List D}(hl:l≠[]):gA (up ρ k r) (up L k l) (k+1)=gA ρ L k++[.rs r 0 l.length]:=by
 unfold gA;rw[List.range_succ,List.map_append];congr 1
 .refine List.map_congr_left fun i hi=>?_;have:i≠k:=by have:=List.mem_range.1 hi;omega
  rw[up_ne _ _ this,up_ne _ _ this]
 .show [jc (up ρ k r k) (up L k l k)]=_;rw[up_same,up_same,lI hl]
theorem dx.push{m m':Mem}{nx nx' j j' k r:Nat}{e et:TypeId}{ρ:Nat->Nat}{L:Nat->List D}{l:List D}(h:dx m nx j k e et ρ L)(hl:l≠[])(hr:nx<=r)(g9:r<nx')(hj:nx<=j')(lW:j'<nx')(hrj:r≠j')
 (aA:m' j'=some (.cells (gA ρ L k++[.rs r 0 l.length]) e)) (J6:m' r=some (.cells l et)) (hk:∀ q,q<nx->q≠j->m' q=m q):dx m' nx' j' (k+1) e et (up ρ k r) (up L k l):=by
 have mG:∀ i,i<k+1->i≠k->L i≠[]->ρ i<nx/\m' (ρ i)=some (.cells (L i) et):=fun i hi C iS=>
  ⟨h.lt i oG iS,(hk _ (h.lt i oG iS) (h.ne i oG iS)).trans (h.n3 i oG iS)⟩
 refine⟨by rw[aA,aar hl],lW,fun i hi C=>?_,fun i hi C=>?_,fun i hi C=>?_,fun a b ha hb X pL U=>?_⟩
 .by_cases e:i=k
  .subst e;rw[up_same,up_same];exact J6
  .rw[up_ne _ _ e] at C ⊢;rw[up_ne _ _ e];exact(mG i hi e C).2
 .by_cases e:i=k
  .subst e;rw[up_same];exact g9
  .rw[up_ne _ _ e] at C ⊢;have:=(mG i hi e C).1;omega
 .by_cases e:i=k
  .subst e;rw[up_same];exact hrj
  .rw[up_ne _ _ e] at C ⊢;have:=(mG i hi e C).1;omega
 .by_cases M:a=k
  .by_cases J:b=k
   .omega
   .subst M;rw[up_same,up_ne _ _ J] at U;rw[up_ne _ _ J] at pL;have:=(mG b hb J pL).1;omega
  .by_cases J:b=k
   .subst J;rw[up_same,up_ne _ _ M] at U;rw[up_ne _ _ M] at X;have:=(mG a ha M X).1;omega
   .rw[up_ne _ _ M] at X U;rw[up_ne _ _ J] at pL U;exact h.inj a b oG oG X pL U
theorem dx.nil{m:Mem}{nx j:Nat}{e et:TypeId}{ρ:Nat->Nat}{L:Nat->List D}(hm:m j=some (.cells [] e))(hj:j<nx):dx m nx j 0 e et ρ L:=
 ⟨hm,hj,fun _ h=>absurd h (Nat.not_lt_zero _),fun _ h=>absurd h (Nat.not_lt_zero _),fun _ h=>absurd h (Nat.not_lt_zero _),fun _ _ h=>absurd h (Nat.not_lt_zero _)⟩
theorem dx.congr{m:Mem}{nx j n:Nat}{e et:TypeId}{ρ:Nat->Nat}{L M:Nat->List D}(h:dx m nx j n e et ρ L)(J:∀ i,i<n->M i=L i):dx m nx j n e et ρ M:=by
 refine⟨?_,h.nC,fun i hi C=>?_,fun i hi C=>h.lt i hi (J i hi▸C),fun i hi C=>h.ne i hi (J i hi▸C),fun a b ha hb U X=>h.inj a b ha hb (J a ha▸U) (J b hb▸X)⟩
 .rw[h.row];congr 2;exact List.map_congr_left fun i hi=>by rw[J i (List.mem_range.1 hi)]
 .rw[J i hi] at C ⊢;exact h.n3 i hi C
theorem dx.put{m:Mem}{nx j n i:Nat}{e et:TypeId}{ρ:Nat->Nat}{L:Nat->List D}{l:List D}(h:dx m nx j n e et ρ L)(hi:i<n)(hl:l.length=(L i).length)(M:L i≠[]):dx (up m (ρ i) (some (.cells l et))) nx j n e et ρ (up L i l):=by
 have U:l≠[]:=fun e=>by
  subst e;exact M (List.eq_nil_of_length_eq_zero hl.symm)
 have J:∀ k,up L i l k≠[]->L k≠[]:=fun k hk=>by
  by_cases e:k=i
  .subst e;exact M
  .rwa[up_ne _ _ e] at hk
 refine⟨?_,h.nC,fun k hk C=>?_,fun k hk C=>h.lt k hk (J k C),fun k hk C=>h.ne k hk (J k C),fun a b ha hb X pL=>h.inj a b ha hb (J a X) (J b pL)⟩
 .rw[up_ne _ _ (fun e=>h.ne i hi M e.symm),h.row];congr 2;refine List.map_congr_left fun k hk=>?_;by_cases e:k=i
  .subst e;rw[up_same,lI U,lI M,hl]
  .rw[up_ne _ _ e]
 .by_cases e:k=i
  .subst e;rw[up_same,up_same]
  .rw[up_ne _ _ e,up_ne _ _ fun e'=>e (h.inj k i hk hi (J k C) M e')];exact h.n3 k hk (J k C)
theorem aeZ{es es':List D}{n:Nat}(hl:es'.length=es.length)(h:∀ (k:Nat) (d d':D),es[k]? =some d->es'[k]? =some d'->Wk d d'):Wk (.sl es n) (.sl es' n):=fun F β w v hv=>by
 cases hv with
 |sln a cap=>
  have:es'=[]:=List.eq_nil_of_length_eq_zero (by simpa using hl);subst this;exact .sln a cap
 |sl _ _ b o cap us hf hb ao n1 ej hc J=>
  refine .sl es' n b o cap us hf hb ao n1 ej (fun k hk=>hc k oG) fun k d' C=>?_;have hk:k<es.length:=by have:=(List.getElem?_eq_some_iff.1 C).1;omega
  exact h k es[k] d' (List.getElem?_eq_getElem hk) C F β w _ (J k es[k] (List.getElem?_eq_getElem hk))
theorem ET{P:Program}{f:FuncId}{args args':List D}{r:D}(hc:PCall P f args' r)(hl:args'.length=args.length)(h:∀ (k:Nat) (d d':D),args[k]? =some d->args'[k]? =some d'->Wk d d')(ht:∀ a∈args,Tr a):PCall P f args r:=by
 refine⟨hc.1,ht,fun F w vs J hR=>hc.2.2 F w vs J ⟨by rw[hR.1,hl],fun k d' v C hv=>?_⟩⟩;have hk:k<args.length:=by have:=(List.getElem?_eq_some_iff.1 C).1;omega
 exact h k args[k] d' (List.getElem?_eq_getElem hk) C F _ w v (hR.2 k args[k] v (List.getElem?_eq_getElem hk) hv)
end Go.Abs
namespace Go.Argus
def je(beh:Nat->List Int)(n b:Nat):List Bool:=(List.range n).map fun a=>dB beh n a b
def Ao(beh:Nat->List Int)(n:Nat):D:=.sl ((List.range n).map fun b=>bq (je beh n b)) n
theorem acK(beh:Nat->List Int)(n:Nat):Tr (Ao beh n):=.sl (.map fun _=>.sl (.map fun _=>.s _))
def gH(beh:Nat->List Int)(n a b i:Nat):List D:=(List.range n).map fun c=>B (if c<a\/(c=a/\i<b) then dB beh n c i else false)
theorem acL(beh:Nat->List Int)(n a b i:Nat):(gH beh n a b i).length=n:=by simp[gH]
theorem acM{beh:Nat->List Int}{n a b:Nat}:(gH beh n a b b).set a (B (dB beh n a b))=gH beh n a (b+1) b:=by
 unfold gH;rw[Ez];refine List.map_congr_left fun c hc=>?_;by_cases e:c=a
 .subst e;rw[up_same,if_pos (.inr ⟨rfl,Nat.lt_succ_self _⟩)]
 .rw[up_ne _ _ e];congr 2;simp[e]
theorem adK{beh:Nat->List Int}{n a b i:Nat}(h:i≠b):gH beh n a (b+1) i=gH beh n a b i:=by
 unfold gH;refine List.map_congr_left fun c hc=>?_;have:i<b+1↔i<b:=by omega
 simp only[this]
theorem adL{beh:Nat->List Int}{n a b:Nat}:up (gH beh n a b) b ((gH beh n a b b).set a (B (dB beh n a b)))=gH beh n a (b+1):=by
 funext i;by_cases e:i=b
 .subst e;rw[up_same,acM]
 .rw[up_ne _ _ e,adK e]
theorem abD{beh:Nat->List Int}{n a i:Nat}(h:i<n):gH beh n (a+1) 0 i=gH beh n a n i:=by
 unfold gH;refine List.map_congr_left fun c hc=>?_;have:(c<a+1\/(c=a+1/\i<0))↔(c<a\/(c=a/\i<n)):=by omega
 simp only[this]
theorem abE{beh:Nat->List Int}{n i:Nat}:gH beh n 0 0 i=(List.replicate n false).map B:=by
 unfold gH;rw[List.map_replicate];have:∀ c,(c<0\/(c=0/\i<0))↔False:=fun c=>by simp
 simp only[this,if_false];rw[List.map_const',List.length_range]
theorem acN{beh:Nat->List Int}{n i:Nat}:gH beh n n 0 i=(je beh n i).map B:=by
 unfold gH je;rw[List.map_map];refine List.map_congr_left fun c hc=>?_;rw[if_pos (.inl (List.mem_range.1 hc))];rfl
theorem H3{beh:Nat->List Int}{n b:Nat}(h:b<n):((List.range n).map fun b=>je beh n b)[b]? =some (je beh n b):=by simp[h]
theorem Hs{beh:Nat->List Int}{n b a:Nat}(h:a<n):(je beh n b)[a]? =some (dB beh n a b):=by simp[je,h]
theorem H2(beh:Nat->List Int)(n:Nat):Ao beh n=.sl (((List.range n).map fun b=>je beh n b).map bq) ((List.range n).map fun b=>je beh n b).length:=by
 unfold Ao;rw[List.map_map,List.length_map,List.length_range];rfl
theorem aat{f:aF}(h:po f=true):∀ b∈f.blocks,b.fin.aI.length<=9:=fun b hb=>by
 unfold po at h;rw[Bool.and_eq_true,Bool.and_eq_true] at h;have:=List.all_eq_true.1 h.2.2 b hb;rw[Bool.and_eq_true,Bool.not_eq_true'] at this;have:=this.1;unfold rB at this;simp only[Bool.or_eq_false_iff,decide_eq_false_iff_not] at this;omega
end Go.Argus
namespace Go.Proofs.Tryz.K
set_option maxRecDepth 10000
theorem nz{f:aF}(hF:yv f)(hw:∀ b∈f.blocks,b.fin.aI.length<=9):PCall prog 91 [.agg (aG f)] (Ao (aD f) f.blocks.length):=by
 have hb:=beh_in hF.ok
 change ∀ b,∀ t∈aD f b,_ at hb
 have A8:=hF.ok.gO;have lh:=hF.ok.pos;have Wn:∀ {w:Int},PCall prog 75 [.agg (aG f),I w] (bq (a8 (aD f) f.blocks.length w)):=fun {w}=>qR hF hw;have fM:=fun w=>mO (w:=w) hb lh;refine a9 mixed Wo (by rw[amX];rfl) (.cons (.agg (gn f)) .nil) (acK _ _) ?_;rw[amY,amZ];refine aw ?_;refine af ?_;refine ab (aO (bw [(0,aG f,26)] eH (l:=[(1,.pt (aG f))]) eH) (aj ?_));have J:∀ a b,dB (aD f) f.blocks.length a b=((a8 (aD f) f.blocks.length (-1)).getD a false&&((a8 (aD f) f.blocks.length (-1)).getD b false&& !(a8 (aD f) f.blocks.length a).getD b false)):=fun _ _=>rfl;have qR:=Wn (w:= -1);have cH:=fM (-1);generalize a8 (aD f) f.blocks.length (-1)=CN at qR J cH;refine SS ?_;refine cl qR ?_;refine SS ?_;refine ab (aw ?_);refine SS ?_;refine ab ⟨_,(Ghost.nilrow _ _ _ 4 52 rfl).trans (aE (l:=[(1,.pt (aG f)),(3,bq CN),(4,.rs 1 0 0)]) (ml:=[(1,.cells [] 52)]) eH ⟨up_same _ _ _,trivial⟩),aC (aw ?_)⟩;refine SS ?_
 refine ab (bO (fun s=>∃ j m nx ρ,Ghost prog s ⟨az [(1,.pt (aG f)),(3,bq CN),(4,.rs j 0 f.blocks.length)],m,nx⟩/\dx m nx j f.blocks.length 52 4 ρ fun _=>(List.replicate f.blocks.length false).map B) (b8 (α:=Nat×Nat×Mem×Nat)
  (fun s=>⟨az [(1,.pt (aG f)),(3,bq CN),(4,.rs s.2.1 0 s.1),(5,I s.1)],s.2.2.1,s.2.2.2⟩)
  (fun s=>s.1<=f.blocks.length/\∃ ρ,dx s.2.2.1 s.2.2.2 s.2.1 s.1 52 4 ρ fun _=>(List.replicate f.blocks.length false).map B) (fun s=>f.blocks.length - s.1) (0,1,aY [(1,.cells [] 52)],2)
  (av eH) ⟨Nat.zero_le _,fun _=>0,.nil rfl oC⟩ ?_) ?_)
 .rintro⟨k,j,m,nx⟩ ⟨hk,ρ,C⟩;dsimp only at hk C ⊢;have aA:=C.row;have ct:=C.nC;have pN:(gA ρ (fun _=>(List.replicate f.blocks.length false).map B) k).length=k:=by simp
  have U:(List.replicate f.blocks.length false).map B≠[]:=fun e=>by
   have:=congrArg List.length e;rw[List.length_map,List.length_replicate,List.length_nil] at this;omega
  refine aK ?_;refine ab ⟨_,rfl,fun h=>?_,fun h=>?_⟩
  .have ao:k<f.blocks.length:=by simpa using h
   have cE:((f.blocks.length:Nat):Int).toNat=f.blocks.length:=Int.toNat_natCast _;refine dz ?_;refine bD ?_;refine tH (tl rfl (ap oG (ap oG aA)) rfl V.h V.h (sQ (up_same _ _ _) rfl) rfl) ak ⟨V.h,rfl,(by first|omega|exact Nat.le_of_ble_eq_true rfl|(simp;done)|(simp;omega)),oC,(by first|rfl|(simp;done)|(simp;omega)),(by unfold maxLen;first|omega|(simp;omega)),(by rw[XO];first|omega|(simp;omega)),(by first|(simp;done)|(simp;omega))⟩ ?_;refine SS ?_;refine ab ?_;refine au ?_
   refine ab (aJ (k+1,nx+2,up (up (up (up m nx (some (.cells (replD ((f.blocks.length:Nat):Int).toNat [B false]) 4))) (nx+1) (some (.cells [.rs nx 0 ((f.blocks.length:Nat):Int).toNat] 52))) j none) (nx+2) (some (.cells (gA ρ (fun _=>(List.replicate f.blocks.length false).map B) k++[.rs nx 0 ((f.blocks.length:Nat):Int).toNat]) 52)),nx+3)
    (jC eH rfl) ⟨by dsimp only;omega,up ρ k nx,?_⟩ oM)
   dsimp only;rw[cE]
   have:=C.push (m':=up (up (up (up m nx (some (.cells (replD f.blocks.length [B false]) 4))) (nx+1) (some (.cells [.rs nx 0 f.blocks.length] 52))) j none) (nx+2) (some (.cells (gA ρ (fun _=>(List.replicate f.blocks.length false).map B) k++[.rs nx 0 f.blocks.length]) 52)))
    (nx':=nx+3) (j':=nx+2) (r:=nx) U (Nat.le_refl _) oG oG oG oG (by rw[up_same];simp) (by rw[ap oG (ap oG (ap oG (up_same _ _ _))),uB]) (fun q hq oq=>ap oG (ap oq (ap oG (ap oG rfl))))
   rwa[show up (fun _:Nat=>(List.replicate f.blocks.length false).map B) k ((List.replicate f.blocks.length false).map B)=fun _=>(List.replicate f.blocks.length false).map B from funext fun i=>by simp[up]] at this
  .have aX:¬ k<f.blocks.length:=by simpa using h
   have:k=f.blocks.length:=by omega
   subst this;exact⟨j,m,nx,ρ,av eH,C⟩
 .rintro s ⟨j,m,nx,ρ,hg,C⟩;refine⟨_,hg,aC (aw ?_)⟩;refine SS ?_;have L7:dx m nx j f.blocks.length 52 4 ρ (gH (aD f) f.blocks.length 0 0):=C.congr fun i _=>abE;clear C
  refine ab (bO (fun s=>∃ m,Ghost prog s ⟨az [(4,.rs j 0 f.blocks.length)],m,nx⟩/\dx m nx j f.blocks.length 52 4 ρ (gH (aD f) f.blocks.length f.blocks.length 0)) (b8 (α:=Nat×Mem)
   (fun s=>⟨az [(1,.pt (aG f)),(3,bq CN),(4,.rs j 0 f.blocks.length),(6,I s.1)],s.2,nx⟩)
   (fun s=>s.1<=f.blocks.length/\dx s.2 nx j f.blocks.length 52 4 ρ (gH (aD f) f.blocks.length s.1 0)) (fun s=>f.blocks.length - s.1) (0,m)
   (av eH) ⟨Nat.zero_le _,L7⟩ ?_) ?_)
  .clear L7;rintro⟨a,m⟩ ⟨ha,C⟩;dsimp only at ha C ⊢;refine aK ?_;refine ab ⟨_,rfl,fun h=>?_,fun h=>?_⟩
   .have ao:a<f.blocks.length:=by simpa using h
    refine ws ?_;have fM:=fM (a:Int);have J:=J a;have qR:=Wn (w:=(a:Int));generalize a8 (aD f) f.blocks.length (a:Int)=LF at qR J fM;refine af ?_;refine cl qR ?_;refine SS ?_;refine ab (aw ?_);refine SS ?_
    refine ab (b8 (α:=Nat×Mem)
     (fun s=>⟨az [(1,.pt (aG f)),(3,bq CN),(4,.rs j 0 f.blocks.length),(6,I a),(7,bq LF),(8,I s.1)],s.2,nx⟩)
     (fun s=>s.1<=f.blocks.length/\dx s.2 nx j f.blocks.length 52 4 ρ (gH (aD f) f.blocks.length a s.1)) (fun s=>f.blocks.length - s.1) (0,m)
     (av eH) ⟨Nat.zero_le _,C⟩ ?_)
    clear C;rintro⟨b,m⟩ ⟨gP,C⟩;dsimp only at gP C ⊢;have aA:=C.row;have ct:=C.nC;refine aK ?_;refine ab ⟨_,rfl,fun h=>?_,fun h=>?_⟩
    .have X:b<f.blocks.length:=by simpa using h
     have hlen:=acL (aD f) f.blocks.length a b b
     have U:gH (aD f) f.blocks.length a b b≠[]:=fun e=>by
      rw[e] at hlen;simp at hlen;omega
     have pN:(gA ρ (gH (aD f) f.blocks.length a b) f.blocks.length).length=f.blocks.length:=by simp
     obtain⟨cs,kd⟩:=BF (ρ:=ρ) (L:=gH (aD f) f.blocks.length a b) X;rw[lI U,hlen] at kd;have cW:=C.n3 b X U;have uc:=C.lt b X U;have Ll:=C.ne b X U;have M:=C.put (l:=(gH (aD f) f.blocks.length a b b).set a (B (dB (aD f) f.blocks.length a b))) X oS U;rw[adL] at M;have lb:=zT (l:=CN) (i:=a) oG;have dN:=zT (l:=CN) (i:=b) oG;have DX:=zT (l:=LF) (i:=b) oG;have J:=J b;generalize dB (aD f) f.blocks.length a b=dd at J M;refine nL aas ?_;cases fF:CN.getD a false with
     |false=>
      rw[fF] at lb J;refine bF ?_;refine af ?_;(iterate 4 refine z fun _ _=>?_);refine af ?_;(iterate 5 refine z fun _ _=>?_);refine au ?_;refine bk (by simp[apartT]) ?_;refine au ?_;refine ab (aJ (b+1,_) (av eH) ⟨by dsimp only;omega,?_⟩ oM);dsimp only;rw[J] at M;exact M
     |true=>
      rw[fF] at lb J;cases n9:CN.getD b false with
      |false=>
       rw[n9] at dN J;refine aL ?_;refine c8 ?_;(iterate 5 refine z fun _ _=>?_);refine au ?_;refine bk (by simp[apartT]) ?_;refine au ?_;refine ab (aJ (b+1,_) (av eH) ⟨by dsimp only;omega,?_⟩ oM);dsimp only;rw[J] at M;exact M
      |true=>
       rw[n9] at dN J;generalize LF.getD b false=lf at DX J;refine aL ?_;refine aL ?_;refine bD ?_;refine bk (by simp[apartT]) ?_;refine au ?_;refine ab (aJ (b+1,_) (av eH) ⟨by dsimp only;omega,?_⟩ oM);dsimp only;rw[J] at M;exact M
    .have aX:¬ b<f.blocks.length:=by simpa using h
     have:b=f.blocks.length:=by omega
     subst this;show AOps _ _ _ _ _ _ _ _ _;refine au ?_;refine ab (aJ (a+1,m) (av eH) ⟨by dsimp only;omega,C.congr fun i hi=>abD hi⟩ oM)
   .have aX:¬ a<f.blocks.length:=by simpa using h
    have:a=f.blocks.length:=by omega
    subst this;exact⟨m,av eH,C⟩
  .rintro s ⟨m,hg,C⟩;clear L7;have C:dx m nx j f.blocks.length 52 4 ρ (fun i=>(je (aD f) f.blocks.length i).map B):=C.congr fun i _=>acN.symm;have om:¬ ∃ i,i<f.blocks.length/\(je (aD f) f.blocks.length i).map B≠[]/\ρ i=j:=fun⟨i,h1,h2,h3⟩=>C.ne i h1 h2 h3;refine⟨_,hg.trans (EB (l:=[(4,.rs j 0 f.blocks.length)]) (ml:=[]) (fun r=>∃ i,i<f.blocks.length/\(je (aD f) f.blocks.length i).map B≠[]/\ρ i=r) C (fun _=>.map) c4 (fun i h1 h2=>⟨i,h1,h2,rfl⟩) om ⟨rfl,trivial⟩ (fun x hx=>?_) trivial (fun x hx=>by cases hx)),aw ?_⟩
   .simp at hx;subst hx;exact .rs om
   refine af ?_;refine ab (aO (bw [(j,_,52)] ⟨if_pos rfl,trivial⟩ (l:=[(2,Ao (aD f) f.blocks.length)]) ⟨?_,trivial⟩) (ay rfl rfl));show sub (fz0 j _ (prog.cellsOf 52)) (D.rs j 0 f.blocks.length)=_;rw[iY (by rw[XP];simp)];unfold Ao bq;simp
theorem xH{a b:List (List Int)}:PCall prog 25 [bp a,bp b] (B (decide (a=b))):=by
 have J:∀ x∈[bp a,bp b],Tr x:=.cons (sT _) (.cons (sT _) .nil);refine mM KJ.he J fun M=>?_;have hlen:=(M (bp a) oS).sl.1;unfold maxLen at hlen;refine a9 mixed KJ (by rw[am0];rfl) J (Tr.s _) ?_;rw[am1,am2];refine ws ?_;refine SS ?_;refine ab (aC (aj ?_));refine aK ?_;refine ab (bh rfl (fun h=>?_) fun h=>bS (aC (aw ?_)))
 .refine aC (aj ?_);refine SS ?_;refine ab (cU (ay (d:=B false) rfl ?_));have C:a≠b:=fun e=>by subst e;simp at h
  rw[decide_eq_false C]
 have ic:a.length=b.length:=by
  have:¬ ((a.length:Int)≠(b.length:Int)):=by simpa using h
  omega
 clear h;refine SS ?_
 refine ab (bO (fun s=>Ghost prog s ⟨az [],fun _=>none,0⟩/\a=b) (b8 (α:=Nat) (fun k=>⟨az [(0,bp a),(1,bp b),(5,I k)],fun _=>none,0⟩)
  (fun k=>k<=a.length/\∀ j,j<k->a[j]? =b[j]?) (fun k=>a.length - k) 0 (av eH) ⟨by omega,fun j hj=>by omega⟩ ?_) ?_)
 .rintro k ⟨hk,hinv⟩;refine aP ?_;refine ab ⟨_,rfl,fun h=>?_,fun h=>?_⟩
  .have ao:k<a.length:=by simpa using h
   have hx:a[k]? =some a[k]:=List.getElem?_eq_getElem ao;have hy:b[k]? =some b[k]:=List.getElem?_eq_getElem oG;generalize a[k]=x at hx;generalize b[k]=y at hy;have Bl:=Bl (a:=x) (b:=y);refine dm abF ?_;refine bF ?_;refine cl Bl ?_;refine SS ?_;refine bk (by simp[apartT]) (aq rfl (fun hp=>?_) fun hp=>?_)
   .refine ws ?_;refine SS ?_;refine ab (aV (cq (aT (ay (d:=B false) rfl ?_))))
    have C:a≠b:=fun e=>by
     subst e;rw[hx] at hy;cases hy;simp at hp
    rw[decide_eq_false C]
   .refine cg ?_;refine au ?_;refine ab (aJ (k+1) (av eH) ⟨by omega,fun j hj=>?_⟩ oG);by_cases e:j=k
    .subst e;rw[hx,hy];congr 1;simpa using hp
    .exact hinv j oG
  .have X:¬ k<a.length:=by simpa using h
   refine⟨fw (l:=[]) trivial,List.ext_getElem? fun j=>?_⟩;by_cases hj:j<k
   .exact hinv j hj
   .rw[List.getElem?_eq_none oG,List.getElem?_eq_none oG]
 .rintro s ⟨hg,U⟩;refine⟨_,hg,aj ?_⟩;refine SS ?_;refine ab (ay (d:=B true) rfl ?_);rw[decide_eq_true U]
theorem am3:PCall prog 25 [.z,.z] (B true):=by
 have:=xH (a:=[]) (b:=[]);rw[decide_eq_true rfl] at this;refine ET this rfl (fun k d d' hd C=>?_) (.cons .z (.cons .z .nil))
 match k with
 |0=>cases hd;cases C;exact wG
 |1=>cases hd;cases C;exact wG
 |k+2=>simp at hd
end Go.Proofs.Tryz.K
namespace Go.Argus
theorem aeY(l:List Int):Wk (zL l) (ax l):=by
 unfold zL;split
 .rename_i e;subst e;exact wG
 .exact vU _
theorem adn(l:List (List Int)):Wk (.sl (l.map zL) l.length) (bp l):=aeZ oS fun k d d' hd C=>by
 rw[List.getElem?_map,Option.map_eq_some_iff] at hd C;obtain⟨x,hx,rfl⟩:=hd;obtain⟨y,hy,rfl⟩:=C;rw[hx] at hy;cases hy;exact aeY x
def kU(G:Nat->List Int)(n:Nat):List D:=(List.range n).map fun i=>ax (G i)
@[simp] theorem aa1 (G : Nat -> List Int) (n : Nat) : (kU G n).length = n := by simp [kU]
theorem ZK{G:Nat->List Int}{n i:Nat}(h:i<n):∃ cs,(kU G n).drop i=ax (G i)::cs:=⟨_,fu (f:=fun i=>ax (G i)) (by simp[h])⟩
theorem aa2{G:Nat->List Int}{n i:Nat}{l:List Int}:(kU G n).set i (ax l)=kU (up G i l) n:=by
 unfold kU;rw[Ez];refine congrArg (fun F=>(List.range n).map F) (funext fun k=>?_);simp only[up];split<;>rfl
def oe(beh:Nat->List Int)(n a:Nat)(i:Nat):List Int:=if i<a then lB beh n i n else []
theorem ae0(beh:Nat->List Int)(n:Nat):oe beh n 0=fun _=>[]:=funext fun i=>by simp[oe]
theorem ado(beh:Nat->List Int)(n a:Nat):up (oe beh n a) a (lB beh n a n)=oe beh n (a+1):=funext fun i=>by
 by_cases h:i=a
 .subst h;rw[up_same];simp[oe]
 .rw[up_ne _ _ h];unfold oe;have:i<a+1↔i<a:=by omega
  simp only[this]
theorem aa3(beh:Nat->List Int)(n a:Nat):up (oe beh n a) a []=oe beh n a:=funext fun i=>by
 by_cases h:i=a
 .subst h;rw[up_same];simp[oe]
 .rw[up_ne _ _ h]
def u4(n:Nat)(l:List Int):Prop:=l.Pairwise (·<·)/\∀ x∈l,0<=x/\x<(n:Int)
theorem u4.put{n:Nat}{l:List Int}(h:u4 n l){x:Int}(hx:0<=x/\x<(n:Int)):u4 n (eA l x):=
 ⟨zJ h.1,fun y hy=>by
  rcases ux.1 hy with hy|rfl
  .exact h.2 y hy
  .exact hx⟩
theorem u4.len{n:Nat}{l:List Int}(h:u4 n l):l.length<=n:=by
 have:=E2 (l:=l) (a:=0) (k:=n) h.1 fun x hx=>by have:=h.2 x hx;omega
 omega
theorem u4.nil(n:Nat):u4 n []:=⟨.nil,fun x hx=>by simp at hx⟩
theorem YT{G:Nat->List Int}{n:Nat}:(D.sl (kU G n) n)=bp ((List.range n).map G):=by
 unfold bp kU;simp[List.map_map]
theorem zE(x:Int×List Int):(dW x).length=2:=rfl
theorem Ox{n:Int}:∀ {l:List Int},n∉l->(eA l n).length=l.length+1
 |[],_=>rfl
 |x::l,h=>by
  rw[List.mem_cons,not_or] at h;unfold eA;split
  .rw[List.length_cons,Ox h.2];rfl
  .rw[if_neg fun e=>h.1 e.symm];rfl
def nR(l:List (Int×List Int)):D:=.sl (l.flatMap dW) l.length
theorem Fv(l:List (Int×List Int)):Tr (nR l):=.sl (.flat fun p=>.cons (.s _) (.cons (cB _) .nil))
theorem adO(l:List (Int×List Int)):Wk (sY l) (nR l):=by
 unfold sY;split
 .rename_i e;subst e;exact wG
 .exact vU _
theorem Ms(l:List (Int×List Int)):(l.flatMap dW).length=l.length*2:=by
 induction l with
 |nil=>rfl
 |cons p l ih=>rw[List.flatMap_cons,List.length_append,ih,List.length_cons,Hn];omega
theorem Yo{i sz:Nat}{cs:List D}{e:TypeId}(l:List (Int×List Int)):Row.sub (fz0 i cs sz) (.cells (l.flatMap dW) e)=.cells (l.flatMap dW) e:=by
 show Row.cells ((l.flatMap dW).map _) e=_;congr 1
 induction l with
 |nil=>rfl
 |cons p l ih=>
  rw[List.flatMap_cons,List.map_append,ih];rfl
theorem NA{f:aF}(h:ik f=true){k:Nat}(hk:k<f.blocks.length):(iL f.blocks)[k]? =some (bu f k):=by
 have he:=MC h;rw[E6 hk, <- HL he];simp[iL,hk]
def BU(f:aF):D:=if cR f=0 then .tup [nR (Ac f),I 0] else .tup [.z,I (cR f)]
theorem Yi(l:List (Int×List Int))(p:Int×List Int):(l++[p]).flatMap dW=l.flatMap dW++dW p:=by simp
def Gn(f:aF)(s:List Int)(x:Nat):Prop:=∀ a∈bu f x,dB (aD f) f.blocks.length a.toNat a.toNat=true->a∈s
theorem abH{l:List Bool}{b:Nat}(hb:b<l.length)(h:l.getD b false=true):(l.set b false).count true<l.count true:=by
 induction l generalizing b with
 |nil=>simp at hb
 |cons x l ih=>
  cases b with
  |zero=>
   have:x=true:=h;subst this;simp
  |succ b=>
   have:=ih (b:=b) (by simpa using hb) (by simpa using h);simp only[List.set_cons_succ,List.count_cons];omega
def o8(f:aF)(l:List Bool)(b:Nat)(C:List Int):Bool:=C.all fun a=> !(l.getD a.toNat false)||dB (aD f) f.blocks.length b a.toNat
theorem Zp(f:aF)(l:List Bool)(b:Nat)(C:List Int)(a:Int):o8 f l b (C++[a])=(o8 f l b C&&(!(l.getD a.toNat false)||dB (aD f) f.blocks.length b a.toNat)):=by
 unfold o8;rw[List.all_append];simp
def KN(f:aF)(l:List Bool)(b:Nat):Prop:=∃ a∈bu f b,l.getD a.toNat false=true/\dB (aD f) f.blocks.length b a.toNat=false
theorem aav{f:aF}{l:List Bool}{b:Nat}(h:o8 f l b (bu f b)=false):KN f l b:=by
 unfold o8 at h;rw[List.all_eq_false] at h;obtain⟨a,ha,hn⟩:=h;refine⟨a,ha,?_⟩;revert hn;cases l.getD a.toNat false<;>cases dB (aD f) f.blocks.length b a.toNat<;>simp
theorem Zr(f:aF):(cR f≠0/\tm f=.tup [.z,I (cR f)])\/(cR f=0/\tm f=.tup [.sl ((uH f).map zL) (uH f).length,I 0]):=by
 unfold tm;split
 .rename_i h;refine .inr ⟨h,?_⟩;have:(uH f).length=f.blocks.length:=by simp[uH,qm]
  rw[this]
 .rename_i h;exact .inl ⟨h,rfl⟩
theorem Yp(l:List (Int×List Int)):sY l=.z\/sY l=nR l:=by
 unfold sY;split
 .exact .inl rfl
 .exact .inr rfl
theorem abJ(f:aF):∃ x e,pu f=.tup [B x,I e]:=by
 unfold pu;split
 .exact⟨_,_,rfl⟩
 .exact⟨_,_,rfl⟩
end Go.Argus
namespace Go.Proofs.Tryz.K
set_option maxRecDepth 10000
def BP(f:aF):D:=if cR f=0 then .tup [bp (wa (aD f) f.blocks.length),I 0] else .tup [.z,I (cR f)]
set_option maxHeartbeats 1000000 in
theorem su{f:aF}(hs:uO f)(hw:∀ b∈f.blocks,b.fin.aI.length<=9):PCall prog 40 [.agg (aG f)] (BP f):=by
 have ld:=ld hs hw
 have aW:Tr (BP f):=by
  unfold BP;split
  .exact .tup (.cons (sT _) (.cons (.s _) .nil))
  .exact .tup (.cons FM (.cons (.s _) .nil))
 refine a9 mixed Vd (by rw[alq];rfl) (.cons (.agg (gn f)) .nil) aW ?_;rw[alr,als];unfold BP;refine aw ?_;refine au ?_;refine ab (aO (bw [(0,aG f,26)] eH (l:=[(1,.pt (aG f))]) eH) (aj ?_));by_cases U:cR f=0
 .rw[U] at ld;rw[if_pos U];have X:=Aj (vN U);have A8:=X.ok.gO;have lh:=X.ok.pos;have hb:=beh_in X.ok
  change ∀ b,∀ t∈aD f b,_ at hb
  have nz:=nz X hw;rw[H2] at nz;have oU:=fun {b:Nat} (h:b<f.blocks.length)=>H3 (beh:=aD f) h;have tA:=fun {a b:Nat} (h:a<f.blocks.length)=>Hs (beh:=aD f) (b:=b) h;have DC:((List.range f.blocks.length).map fun b=>je (aD f) f.blocks.length b).length=f.blocks.length:=by simp
  generalize ((List.range f.blocks.length).map fun b=>je (aD f) f.blocks.length b)=RW at nz oU DC;generalize xg:je (aD f) f.blocks.length=RR at oU tA;clear xg;refine SS ?_;refine cl ld ?_;refine SS ?_;refine ab (aC (aj ?_));refine af ?_;refine ab (bh rfl (fun h=>oH) fun _=>bS (aj ?_));refine SS ?_;refine cl nz ?_;refine SS ?_;refine ab (aw ?_);have cE:((f.blocks.length:Nat):Int).toNat=f.blocks.length:=Int.toNat_natCast _;refine aK ?_
  refine ab ⟨_,(aE (l:=[(1,.pt (aG f)),(5,.sl (RW.map bq) RW.length),(6,.rs 1 0 f.blocks.length)]) (ml:=[(1,.cells (List.replicate f.blocks.length .z) 27)]) ⟨rfl,rfl,(by exact congrArg (fun k=>D.rs 1 0 k) cE),trivial⟩ ⟨(by exact congrArg (fun c=>some (Row.cells c 27)) ((congrArg (fun k=>replD k [D.z]) cE).trans (zP _))),trivial⟩).trans
   (.weak _ _ _ (aY [(1,.cells (kU (oe (aD f) f.blocks.length 0) f.blocks.length) 27)]) _ (fun _=>vU _) fun i=>?_),aC (aw ?_)⟩
  .by_cases e:i=1
   .subst e;refine .inr ⟨_,_,27,rfl,rfl,by simp,fun k d d' hd dL=>?_⟩;have h1:=List.mem_of_getElem? hd;rw[(List.mem_replicate.1 h1).2];unfold kU at dL;rw[List.getElem?_map,Option.map_eq_some_iff] at dL;obtain⟨q,_,rfl⟩:=dL;rw[ae0];exact wG
   .exact .inl (by simp[aY,e])
  refine SS ?_
  refine ab (bO (fun s=>Ghost prog s ⟨az [(6,.rs 1 0 f.blocks.length)],aY [(1,.cells (kU (oe (aD f) f.blocks.length f.blocks.length) f.blocks.length) 27)],2⟩) (b8 (α:=Nat)
   (fun a=>⟨az [(1,.pt (aG f)),(5,.sl (RW.map bq) RW.length),(6,.rs 1 0 f.blocks.length),(7,I a)],aY [(1,.cells (kU (oe (aD f) f.blocks.length a) f.blocks.length) 27)],2⟩)
   (fun a=>a<=f.blocks.length) (fun a=>f.blocks.length - a) 0 (aE eH eH) (Nat.zero_le _) ?_) ?_)
  .intro a ha;refine aK ?_;refine ab ⟨_,rfl,fun h=>?_,fun h=>?_⟩
   .have halt:a<f.blocks.length:=by simpa using h
    refine aw ?_;refine SS ?_;have CB:=aa3 (aD f) f.blocks.length a;have jm:=ado (aD f) f.blocks.length a;generalize hG:oe (aD f) f.blocks.length a=G at CB jm ⊢;clear hG
    refine ab (b8 (α:=Nat)
     (fun b=>⟨az [(1,.pt (aG f)),(5,.sl (RW.map bq) RW.length),(6,.rs 1 0 f.blocks.length),(7,I a),(8,I b)],aY [(1,.cells (kU (up G a (lB (aD f) f.blocks.length a b)) f.blocks.length) 27)],2⟩)
     (fun b=>b<=f.blocks.length/\u4 f.blocks.length (lB (aD f) f.blocks.length a b)) (fun b=>f.blocks.length - b) 0 (aE eH ⟨?_,trivial⟩) ⟨Nat.zero_le _,.nil _⟩ ?_)
    .show _=some (Row.cells (kU (up G a []) _) 27);rw[CB];rfl
    .rintro b ⟨gP,M⟩;refine aK ?_;refine ab ⟨_,rfl,fun h=>?_,fun h=>?_⟩
     .have wH:b<f.blocks.length:=by simpa using h
      have hx:=oU wH;have xh:=tA (b:=b) halt;have Lg:f.blocks[b]? =some f.blocks[b]:=List.getElem?_eq_getElem wH;have bQ:f.blocks[b]∈f.blocks:=List.getElem_mem _;have jT:=jT Lg (by have:=hw _ bQ;omega);rw[(X.ed _ bQ).2, <- EN Lg] at jT;have iD:=hb b;have J:lB (aD f) f.blocks.length a (b+1)=if dB (aD f) f.blocks.length a b=true then(aD f b).foldl (oI (aD f) f.blocks.length a) (lB (aD f) f.blocks.length a b) else lB (aD f) f.blocks.length a b:=My _ _ _ _
      generalize lB (aD f) f.blocks.length a b=L0 at M J ⊢;generalize RR b=Rb at hx xh
      have ic:(aD f b).length<=100000:=by
       rw[EN Lg];have:=vP f.blocks[b].fin;have:=hw _ bQ;omega
      refine aC (aj ?_);cases hd:dB (aD f) f.blocks.length a b with
      |false=>
       rw[hd] at xh J;rw[if_neg oS] at J;refine bF ?_;refine ab (bh rfl (fun h=>kF (qj ?_)) fun h=>oH);refine au ?_;refine ab (aJ (b+1) (aE eH ⟨by rw[J];rfl,trivial⟩) ⟨by omega,by rw[J];exact M⟩ oG)
      |true=>
       rw[hd] at xh J;rw[if_pos rfl] at J;refine bF ?_;refine ab (bh rfl (fun h=>oH) fun h=>bS (aj ?_));generalize aD f b=l at jT iD J ic;refine af ?_;refine cl jT ?_;refine SS ?_;refine ab (aw ?_);refine SS ?_
       refine ab (b8 (α:=Nat)
        (fun j=>⟨az [(1,.pt (aG f)),(5,.sl (RW.map bq) RW.length),(6,.rs 1 0 f.blocks.length),(7,I a),(8,I b),(9,ax l),(10,I j)],aY [(1,.cells (kU (up G a ((l.take j).foldl (oI (aD f) f.blocks.length a) L0)) f.blocks.length) 27)],2⟩)
        (fun j=>j<=l.length/\u4 f.blocks.length ((l.take j).foldl (oI (aD f) f.blocks.length a) L0)) (fun j=>l.length - j) 0 (aE eH eH) ⟨Nat.zero_le _,M⟩ ?_)
       rintro j ⟨hj,M⟩;have C:∀ t,l[j]? =some t->(l.take (j+1)).foldl (oI (aD f) f.blocks.length a) L0=oI (aD f) f.blocks.length a ((l.take j).foldl (oI (aD f) f.blocks.length a) L0) t:=fun t ht=>iG ht;have jL:j=l.length->(l.take j).foldl (oI (aD f) f.blocks.length a) L0=lB (aD f) f.blocks.length a (b+1):=fun e=>by rw[J,List.take_of_length_le oG]
       generalize (l.take j).foldl (oI (aD f) f.blocks.length a) L0=L at M C jL ⊢;refine aP ?_;refine ab ⟨_,rfl,fun h=>?_,fun h=>?_⟩
       .have ct:j<l.length:=by simpa using h
        have hy:l[j]? =some l[j]:=List.getElem?_eq_getElem ct;have fN:=iD _ (List.getElem_mem ct);have C:(l.take (j+1)).foldl (oI (aD f) f.blocks.length a) L0=if l[j]=(a:Int)\/dB (aD f) f.blocks.length a l[j].toNat=false then eA L l[j] else L:=C _ hy
        generalize l[j]=c at hy fN C;obtain⟨i,rfl⟩:=Int.eq_ofNat_of_zero_le fN.1;rw[Int.toNat_natCast] at fN C;have hz:=oU fN.2;have og:=tA (b:=i) halt;generalize RR i=Ri at hz og;have hlen:=M.len;have fY:=M.put (x:=(i:Int)) ⟨by omega,by omega⟩;obtain⟨cs,kd⟩:=ZK (G:=up G a L) halt;rw[up_same] at kd;have ni:(kU (up G a L) f.blocks.length).set a (ax (eA L i))=kU (up G a (eA L i)) f.blocks.length:=by rw[aa2,lH]
        have pI:=pI (l:=L) (n:=(i:Int)) oG;have hlr:=aa1 (up G a L) f.blocks.length;refine ws ?_;by_cases iU:i=a
        .have fh:((i:Int)==(a:Int))=true:=by simp[iU]
         rw[if_pos (.inl (by rw[iU]))] at C;refine c8 ?_;(iterate 11 refine z fun _ _=>?_);refine SS ?_;refine ab (aq rfl (fun h=>nL Nb ?_) fun h=>oH);refine bF ?_;refine af ?_;refine cl pI ?_;refine af ?_;refine bk (by simp[apartT]) ?_;refine au ?_;refine ab (aJ (j+1) (aE eH ⟨by rw[C, <- ni];rfl,trivial⟩) ⟨by omega,by rw[C];exact fY⟩ oG)
        .have fh:((i:Int)==(a:Int))=false:=by simp;omega
         cases WX:dB (aD f) f.blocks.length a i with
         |false=>
          rw[WX] at og C;rw[if_pos (.inr rfl)] at C;refine aL ?_;refine bF ?_;refine af ?_;refine ab (aq rfl (fun h=>nL Nb ?_) fun h=>oH);refine bF ?_;refine af ?_;refine cl pI ?_;refine af ?_;refine bk (by simp[apartT]) ?_;refine au ?_;refine ab (aJ (j+1) (aE eH ⟨by rw[C, <- ni];rfl,trivial⟩) ⟨by omega,by rw[C];exact fY⟩ oG)
         |true=>
          rw[WX] at og C;rw[if_neg (fun h=>by rcases h with h|h;exact iU oG;cases h)] at C;refine aL ?_;refine bF ?_;refine af ?_;refine ab (aq rfl (fun h=>oH) fun h=>cg ?_);refine au ?_;refine ab (aJ (j+1) (aE eH ⟨by rw[C];rfl,trivial⟩) ⟨by omega,by rw[C];exact M⟩ oG)
       .have aX:¬ j<l.length:=by simpa using h
        have vl:=jL oG;show AOps _ _ _ _ _ _ _ _ _;refine au ?_;refine ab (aJ (b+1) (aE eH ⟨by rw[<- vl];rfl,trivial⟩) ⟨by omega,by rw[<- vl];exact M⟩ oG)
     .have aX:¬ b<f.blocks.length:=by simpa using h
      have:b=f.blocks.length:=by omega
      subst this;show AOps _ _ _ _ _ _ _ _ _;refine au ?_;refine ab (aJ (a+1) (aE eH ⟨by rw[<- jm];rfl,trivial⟩) oG oG)
   .have aX:¬ a<f.blocks.length:=by simpa using h
    have:a=f.blocks.length:=by omega
    subst this;exact aE eH eH
  .intro s hg;refine⟨_,hg,aw ?_⟩;refine au ?_;refine ab (aO (bw [(1,kU (oe (aD f) f.blocks.length f.blocks.length) f.blocks.length,27)] eH (l:=[(2,bp (wa (aD f) f.blocks.length)),(3,I 0)]) ⟨?_,rfl,trivial⟩) (j6 rfl rfl rfl));show sub (fz0 1 _ (prog.cellsOf 27)) (D.rs 1 0 f.blocks.length)=_;rw[iY (by rw[y6];simp),YT];unfold wa;congr 1;exact List.map_congr_left fun i hi=>if_pos (List.mem_range.1 hi)
 .rw[if_neg U];generalize cR f=ce at U ld ⊢;have gZ:(ce !=0)=true:=by simp[U]
  refine SS ?_;refine cl ld ?_;refine SS ?_;refine ab (aC (aj ?_));refine af ?_;refine ab (bh rfl (fun _=>?_) fun h=>oH);refine aC (aj ?_);refine au ?_;exact ab (cU (j6 rfl rfl rfl))
theorem Bm{l:List Int}{v:Int}:PCall prog 59 [ax l,I v] (B (AE l v)):=by
 refine mM KK.he (.cons (cB _) (.cons (.s _) .nil)) fun C=>?_;have hlen:=(C (ax l) oS).sl.1;unfold maxLen at hlen;refine a9 mixed KK (by rw[am4];rfl) (.cons (cB _) (.cons (.s _) .nil)) (Tr.s _) ?_;rw[am5,am6];refine ws ?_;refine SS ?_;refine ab (aC (aw ?_));refine SS ?_
 refine ab (bO (fun s=>Ghost prog s ⟨az [],fun _=>none,0⟩/\∀ (j:Nat) y,l[j]? =some y->(y==v)=false) (b8 (α:=Nat) (fun k=>⟨az [(0,ax l),(1,I v),(5,I k)],fun _=>none,0⟩)
  (fun k=>k<=l.length/\∀ j y,j<k->l[j]? =some y->(y==v)=false) (fun k=>l.length - k) 0 (av eH) ⟨by omega,fun j y hj=>by omega⟩ ?_) ?_)
 .rintro k ⟨hk,hinv⟩;refine aP ?_;refine ab ⟨_,rfl,fun h=>?_,fun h=>?_⟩
  .have ao:k<l.length:=by simpa using h
   have hx:l[k]? =some l[k]:=by simp[ao]
   generalize l[k]=x at hx;refine ws ?_;refine bD ?_;refine ab (aq rfl (fun hp=>?_) fun hp=>?_)
   .refine ws ?_;refine SS ?_;refine ab (aV (cq (aT (ay (d:=B true) rfl ?_))));have:AE l v=true:=List.any_eq_true.2 ⟨x,List.mem_of_getElem? hx,hp⟩;rw[this]
   .refine cg ?_;refine au ?_;refine ab (aJ (k+1) (av eH) ⟨by omega,fun j y hj hy=>?_⟩ oG);by_cases e:j=k
    .subst e;rw[hx] at hy;cases hy;exact hp
    .exact hinv j y oG hy
  .have M:¬ k<l.length:=by simpa using h
   exact⟨.forget _ _ _ _ fun _=>.inr rfl,fun j y hy=>hinv j y (by have:=(List.getElem?_eq_some_iff.1 hy).1;omega) hy⟩
 .rintro s ⟨hg,J⟩;refine⟨_,hg,aj ?_⟩;refine SS ?_;refine ab (ay (d:=B false) rfl ?_)
  have:AE l v=false:=List.any_eq_false.2 fun x hx=>by
   obtain⟨j,hj⟩:=List.getElem?_of_mem hx;rw[J j x hj];simp
  rw[this]
theorem sG{a b:List (Int×List Int)}:PCall prog 45 [nR a,nR b] (B (decide (a=b))):=by
 have J:∀ x∈[nR a,nR b],Tr x:=.cons (Fv _) (.cons (Fv _) .nil);refine mM KL.he J fun M=>?_;have hlen:=(M (nR a) oS).sl.1;unfold maxLen at hlen;refine a9 mixed KL (by rw[am7];rfl) J (Tr.s _) ?_;rw[am8,am9];refine ws ?_;refine SS ?_;refine ab (aC (aj ?_));refine aK ?_;refine ab (bh rfl (fun h=>?_) fun h=>bS (aC (aw ?_)))
 .refine aC (aj ?_);refine SS ?_;refine ab (cU (ay (d:=B false) rfl ?_));have C:a≠b:=fun e=>by subst e;simp at h
  rw[decide_eq_false C]
 have ic:a.length=b.length:=by
  have:¬ ((a.length:Int)≠(b.length:Int)):=by simpa using h
  omega
 clear h;refine SS ?_
 refine ab (bO (fun s=>Ghost prog s ⟨az [],fun _=>none,0⟩/\a=b) (b8 (α:=Nat) (fun k=>⟨az [(0,nR a),(1,nR b),(5,I k)],fun _=>none,0⟩)
  (fun k=>k<=a.length/\∀ j,j<k->a[j]? =b[j]?) (fun k=>a.length - k) 0 (av eH) ⟨by omega,fun j hj=>by omega⟩ ?_) ?_)
 .rintro k ⟨hk,hinv⟩;refine aP ?_;refine ab ⟨_,rfl,fun h=>?_,fun h=>?_⟩
  .have ao:k<a.length:=by simpa using h
   have hx:a[k]? =some a[k]:=List.getElem?_eq_getElem ao;have hy:b[k]? =some b[k]:=List.getElem?_eq_getElem oG;generalize a[k]=x at hx;generalize b[k]=y at hy;have Bl:=Bl (a:=x.2) (b:=y.2);have X:x=y↔x.1=y.1/\x.2=y.2:=Prod.ext_iff;refine dm abG ?_;by_cases h1:x.1=y.1
   .have gZ:(x.1 !=y.1)=false:=by simp[h1]
    refine aL ?_;refine aK ?_;refine bG rfl rfl (rz rfl rfl V.h V.h (zE) oN) (fun hc=>⟨ak,(rA V.h (zE) oN)⟩) ?_;refine aP ?_;refine bG rfl rfl (rz rfl rfl V.h V.h (zE) oN) (fun hc=>⟨ak,(rA V.h (zE) oN)⟩) ?_;refine af ?_;refine gc Bl ?_;refine af ?_;refine bk (by simp[apartT]) (aq rfl (fun hp=>?_) fun hp=>?_)
    .refine ws ?_;refine SS ?_;refine ab (aV (cq (aT (ay (d:=B false) rfl ?_))))
     have C:a≠b:=fun e=>by
      subst e;rw[hx] at hy;cases hy;simp at hp
     rw[decide_eq_false C]
    .refine cg ?_;refine au ?_;refine ab (aJ (k+1) (av eH) ⟨by omega,fun j hj=>?_⟩ oG);by_cases e:j=k
     .subst e;rw[hx,hy];congr 1;exact X.2 ⟨h1,by simpa using hp⟩
     .exact hinv j oG
   .have gZ:(x.1 !=y.1)=true:=by simp[h1]
    refine aL ?_;refine au ?_;(iterate 12 refine z fun _ _=>?_);refine SS ?_;refine bk (by simp[apartT]) (aq rfl (fun hp=>?_) fun hp=>(by cases hp));refine ws ?_;refine SS ?_;refine ab (aV (cq (aT (ay (d:=B false) rfl ?_))))
    have C:a≠b:=fun e=>by
     subst e;rw[hx] at hy;cases hy;exact h1 rfl
    rw[decide_eq_false C]
  .have aX:¬ k<a.length:=by simpa using h
   refine⟨fw (l:=[]) trivial,List.ext_getElem? fun j=>?_⟩;by_cases hj:j<k
   .exact hinv j hj
   .rw[List.getElem?_eq_none oG,List.getElem?_eq_none oG]
 .rintro s ⟨hg,U⟩;refine⟨_,hg,aj ?_⟩;refine SS ?_;refine ab (ay (d:=B true) rfl ?_);rw[decide_eq_true U]
theorem Wp{f:aF}(hf:ik f=true)(C:∀ b∈f.blocks,b.fin.aI.length<=9):PCall prog 56 [.agg (aG f)] (bp (iL f.blocks)):=
 nF (f:=f) rfl (by have:=(uG hf).gO;omega) C (fun b hb t ht=>by rw[((Aj hf).ed b hb).2] at ht;exact((uG hf).blk b hb).to t ht)
set_option maxHeartbeats 1000000 in
theorem sH{f:aF}(hs:uO f)(hw:∀ b∈f.blocks,b.fin.aI.length<=9):PCall prog 42 [.agg (aG f)] (BU f):=by
 have ld:=ld hs hw
 have aW:Tr (BU f):=by
  unfold BU;split
  .exact .tup (.cons (Fv _) (.cons (.s _) .nil))
  .exact .tup (.cons FM (.cons (.s _) .nil))
 refine a9 mixed Wq (by rw[am'];rfl) (.cons (.agg (gn f)) .nil) aW ?_;rw[ana,anb];unfold BU;refine aw ?_;refine au ?_;refine ab (aO (bw [(0,aG f,26)] eH (l:=[(1,.pt (aG f))]) eH) (aj ?_));by_cases U:cR f=0
 .rw[U] at ld;rw[if_pos U];have hF:=Aj (vN U);have A8:=hF.ok.gO;have lh:=hF.ok.pos;have hg:=tO hF.ok;have nz:=nz hF hw;rw[H2] at nz;have nF:=Wp (vN U) hw;have AR:=fun {k:Nat} (h:k<f.blocks.length)=>NA (vN U) h;have za:(iL f.blocks).length=f.blocks.length:=by simp[iL]
  generalize iL f.blocks=AL at nF AR za;have oU:=fun {b:Nat} (h:b<f.blocks.length)=>H3 (beh:=aD f) h;have tA:=fun {a b:Nat} (h:a<f.blocks.length)=>Hs (beh:=aD f) (b:=b) h;have DC:((List.range f.blocks.length).map fun b=>je (aD f) f.blocks.length b).length=f.blocks.length:=by simp
  generalize ((List.range f.blocks.length).map fun b=>je (aD f) f.blocks.length b)=RW at nz oU DC;generalize xg:je (aD f) f.blocks.length=RR at oU tA;clear xg;have FT:=BH hF.ok;have hLG:Ac f=nr (aD f) (bu f) f.blocks.length f.blocks.length:=(adP hg).symm;rw[hLG];refine SS ?_;refine cl ld ?_;refine SS ?_;refine ab (aC (aj ?_));refine af ?_;refine ab (bh rfl (fun h=>oH) fun _=>bS (aj ?_));refine SS ?_;refine cl nz ?_;refine SS ?_;refine er ?_;refine SS ?_;refine cl nF ?_;refine SS ?_;refine ab (aw ?_);refine SS ?_;refine ab ⟨_,(Ghost.nilrow _ _ _ 7 74 rfl).trans (aE (l:=[(1,.pt (aG f)),(5,.sl (RW.map bq) RW.length),(6,bp AL),(7,.rs 1 0 0)]) (ml:=[(1,.cells [] 74)]) eH ⟨up_same _ _ _,trivial⟩),aC (aw ?_)⟩;refine SS ?_
  refine ab (bO (fun s=>∃ j nx,Ghost prog s ⟨az [(7,.rs j 0 (nr (aD f) (bu f) f.blocks.length f.blocks.length).length)],aY [(j,.cells ((nr (aD f) (bu f) f.blocks.length f.blocks.length).flatMap dW) 74)],nx⟩) (b8 (α:=Nat×Nat×Nat)
   (fun s=>⟨az [(1,.pt (aG f)),(5,.sl (RW.map bq) RW.length),(6,bp AL),(7,.rs s.2.1 0 (nr (aD f) (bu f) f.blocks.length s.1).length),(8,I s.1)],aY [(s.2.1,.cells ((nr (aD f) (bu f) f.blocks.length s.1).flatMap dW) 74)],s.2.2⟩)
   (fun s=>s.1<=f.blocks.length/\s.2.1<s.2.2/\(nr (aD f) (bu f) f.blocks.length s.1).length<=s.1) (fun s=>f.blocks.length - s.1) (0,1,2)
   (aE eH eH) ⟨Nat.zero_le _,by decide,Nat.le_refl _⟩ ?_) ?_)
  .rintro⟨hd,j,nx⟩ ⟨G7,ct,zq⟩;dsimp only at G7 ct zq ⊢;refine aK ?_;refine ab ⟨_,rfl,fun h=>?_,fun h=>?_⟩
   .have ao:hd<f.blocks.length:=by simpa using h
    have J:nr (aD f) (bu f) f.blocks.length (hd+1)=Df (aD f) (bu f) f.blocks.length (nr (aD f) (bu f) f.blocks.length hd) hd:=NB _ _ _ _;generalize nr (aD f) (bu f) f.blocks.length hd=L at zq J ⊢;unfold Df at J;have aA:aY [(j,Row.cells (L.flatMap dW) 74)] j=some (Row.cells (L.flatMap dW) 74):=if_pos rfl;refine aw ?_;refine au ?_
    refine ab (aO (gQ (i:=nx) (l:=[(1,.pt (aG f)),(5,.sl (RW.map bq) RW.length),(6,bp AL),(7,.rs j 0 L.length),(8,I hd),(9,ax [(hd:Int)])]) (ml:=[(j,.cells (L.flatMap dW) 74)]) (up_same _ _ _)
     ⟨rfl,rfl,rfl,zF oG,rfl,iY (cs0:=[I hd]) (by rw[c3];rfl),trivial⟩ ⟨?_,trivial⟩) (aj ?_))
    .dsimp only;rw[if_neg oG,up_ne _ _ oG,aA,Option.map_some,Yo]
    refine SS ?_;refine ab (aC (aw ?_));refine SS ?_;have dT:=AR ao;have w7:=FT hd;have M:=aau hg hd;have A3:=HM hg hd;have G8:yP (aD f) (bu f) f.blocks.length hd=(bu f hd).foldl (ns (aD f) f.blocks.length hd) ([(hd:Int)],false):=rfl;generalize yP (aD f) (bu f) f.blocks.length hd=LV at M A3 G8 J;have AS:∀ a∈bu f hd,0<=a/\a.toNat<f.blocks.length:=fun a ha=>by have:=(hg.nE hd a).1 ha;exact⟨this.1,this.2.1⟩
    generalize bu f hd=al at dT w7 G8 AS
    refine ab (bO (fun s=>Ghost prog s ⟨az [(1,.pt (aG f)),(5,.sl (RW.map bq) RW.length),(6,bp AL),(7,.rs j 0 L.length),(8,I hd),(9,ax LV.1),(10,B LV.2)],aY [(j,.cells (L.flatMap dW) 74)],nx+1⟩) (b8 (α:=Nat)
     (fun i=>⟨az [(1,.pt (aG f)),(5,.sl (RW.map bq) RW.length),(6,bp AL),(7,.rs j 0 L.length),(8,I hd),(9,ax ((al.take i).foldl (ns (aD f) f.blocks.length hd) ([(hd:Int)],false)).1),(10,B ((al.take i).foldl (ns (aD f) f.blocks.length hd) ([(hd:Int)],false)).2),(11,I i)],aY [(j,.cells (L.flatMap dW) 74)],nx+1⟩)
     (fun i=>i<=al.length/\((al.take i).foldl (ns (aD f) f.blocks.length hd) ([(hd:Int)],false)).1.length<=i+1) (fun i=>al.length - i) 0
     (aE eH ⟨if_pos rfl,trivial⟩) ⟨Nat.zero_le _,Nat.le_refl _⟩ ?_) ?_)
    .rintro i ⟨hi,fq⟩;have C:∀ t,al[i]? =some t->(al.take (i+1)).foldl (ns (aD f) f.blocks.length hd) ([(hd:Int)],false)=ns (aD f) f.blocks.length hd ((al.take i).foldl (ns (aD f) f.blocks.length hd) ([(hd:Int)],false)) t:=fun t ht=>iG ht;have jL:i=al.length->(al.take i).foldl (ns (aD f) f.blocks.length hd) ([(hd:Int)],false)=LV:=fun e=>by rw[G8,List.take_of_length_le oG]
     generalize (al.take i).foldl (ns (aD f) f.blocks.length hd) ([(hd:Int)],false)=sv at fq C jL ⊢;obtain⟨s,t⟩:=sv;dsimp only at fq C ⊢;refine c8 ?_;refine ab ⟨_,rfl,fun h=>?_,fun h=>?_⟩
     .have hZ:i<al.length:=by simpa using h
      have hy:al[i]? =some al[i]:=List.getElem?_eq_getElem hZ;have X:=AS _ (List.getElem_mem hZ);have C:(al.take (i+1)).foldl (ns (aD f) f.blocks.length hd) ([(hd:Int)],false)=if dB (aD f) f.blocks.length hd al[i].toNat=true then(eA s al[i],true) else(s,t):=C _ hy
      generalize al[i]=c at hy X C;obtain⟨m,rfl⟩:=Int.eq_ofNat_of_zero_le X.1;rw[Int.toNat_natCast] at X C;have hz:=oU X.2;have og:=tA (b:=m) ao;generalize RR m=Rm at hz og;have pI:=pI (l:=s) (n:=(m:Int)) oG;refine ws ?_;cases dL:dB (aD f) f.blocks.length hd m with
      |false=>
       rw[dL] at og C;rw[if_neg oS] at C;refine aL ?_;refine aP ?_;refine ab (aq rfl (fun h=>oH) fun h=>cg ?_);refine au ?_;refine ab (aJ (i+1) (aE ⟨rfl,rfl,rfl,rfl,rfl,by rw[C];rfl,by rw[C];rfl,rfl,trivial⟩ ⟨if_pos rfl,trivial⟩) ⟨by omega,by rw[C];dsimp only;omega⟩ oG)
      |true=>
       rw[dL] at og C;rw[if_pos rfl] at C;have iC:=Ig (l:=s) (n:=(m:Int));refine aL ?_;refine aP ?_;refine ab (aq rfl (fun h=>aj ?_) fun h=>oH);refine SS ?_;refine ab (dz ?_);refine bF ?_;refine cl pI ?_;refine SS ?_;refine ab ?_;refine au ?_;refine ab (aJ (i+1) (aE ⟨rfl,rfl,rfl,rfl,rfl,by rw[C];rfl,by rw[C];rfl,rfl,trivial⟩ ⟨if_pos rfl,trivial⟩) ⟨by omega,by rw[C];dsimp only;omega⟩ oG)
     .have aX:¬ i<al.length:=by simpa using h
      have vl:=jL oG;subst vl;exact aE eH ⟨if_pos rfl,trivial⟩
    .intro s uo;refine⟨_,uo,aC (aj ?_)⟩;clear G8 dT AS;obtain⟨s0,fo⟩:=LV;dsimp only at M A3 J ⊢;cases fo with
     |false=>
      rw[if_neg oS] at J;refine af ?_;refine ab (bh rfl (fun h=>kF (qj ?_)) fun h=>oH);refine au ?_;refine ab (aJ (hd+1,j,nx+1) (aE ⟨rfl,rfl,rfl,by rw[J];rfl,rfl,trivial⟩ ⟨by rw[J];exact if_pos rfl,trivial⟩) ⟨by dsimp only;omega,by dsimp only;omega,by dsimp only;rw[J];omega⟩ oM)
     |true=>
     rw[if_pos rfl] at J;obtain⟨_,_,_,_,rh⟩:=A3.1 rfl;have y7:∀ {a:Nat},dB (aD f) f.blocks.length a a=true->bj (aD f) f.blocks.length a:=fun h=>((rP hg).1 h).1;have lS:∀ {s:List Int},o7 (aD f) (bu f) f.blocks.length hd s->(∀ x:Nat,(x:Int)∈s->x≠hd->Gn f s x)->s=CH (aD f) (bu f) f.blocks.length hd:=fun hs hc=>hs.fin hg rh hc;generalize CH (aD f) (bu f) f.blocks.length hd=BV at J lS;refine af ?_;refine ab (bh rfl (fun h=>oH) fun h=>bS (aC (aw ?_)));refine SS ?_
     refine ab (bO (fun s=>Ghost prog s ⟨az [(1,.pt (aG f)),(5,.sl (RW.map bq) RW.length),(6,bp AL),(7,.rs j 0 L.length),(8,I hd),(9,ax BV)],aY [(j,.cells (L.flatMap dW) 74)],nx+1⟩) (uA (α:=List Int×Bool)
      (fun s=>⟨az [(1,.pt (aG f)),(5,.sl (RW.map bq) RW.length),(6,bp AL),(7,.rs j 0 L.length),(8,I hd),(9,ax s.1),(12,B s.2)],aY [(j,.cells (L.flatMap dW) 74)],nx+1⟩)
      (fun s=>o7 (aD f) (bu f) f.blocks.length hd s.1/\(s.2=false->∀ x:Nat,(x:Int)∈s.1->x≠hd->Gn f s.1 x)) (fun s=>2*(f.blocks.length - s.1.length)+if s.2=true then 1 else 0) (s0,true)
      (aE eH ⟨if_pos rfl,trivial⟩) ⟨M,fun h=>by cases h⟩ ?_) ?_)
     .clear M uo;rintro⟨s0,t0⟩ ⟨KM,Wr⟩;dsimp only at KM Wr ⊢;refine SS ?_;refine ab ⟨_,rfl,fun ht=>?_,fun ht=>?_⟩
      .refine ws ?_;refine SS ?_;refine ab (aw ?_);refine SS ?_
       refine ab (b8 (α:=Nat×List Int×Bool)
        (fun s=>⟨az [(1,.pt (aG f)),(5,.sl (RW.map bq) RW.length),(6,bp AL),(7,.rs j 0 L.length),(8,I hd),(9,ax s.2.1),(12,B s.2.2),(13,I s.1)],aY [(j,.cells (L.flatMap dW) 74)],nx+1⟩)
        (fun s=>s.1<=s.2.1.length/\o7 (aD f) (bu f) f.blocks.length hd s.2.1/\(s.2.2=false->s.2.1=s0/\∀ (i:Nat) (x:Nat),i<s.1->s0[i]? =some (x:Int)->x≠hd->Gn f s0 x)/\(s.2.2=true->s0.length<s.2.1.length)) (fun s=>if s.2.2=true then 0 else s.2.1.length - s.1) (0,s0,false)
        (aE eH ⟨if_pos rfl,trivial⟩) ⟨Nat.zero_le _,KM,fun _=>⟨rfl,fun i x hi=>absurd hi (Nat.not_lt_zero _)⟩,fun h=>by cases h⟩ ?_)
       rintro⟨k,s,t⟩ ⟨hk,M,uq,yG⟩;dsimp only at hk M uq yG ⊢;have ju:=M.len hg ao;refine bF ?_;refine ab ⟨_,rfl,fun h=>?_,fun h=>?_⟩
       .have⟨pD,L8⟩:k<s.length/\t=false:=by
         revert h;cases t<;>simp
        subst L8;obtain⟨rfl,uq⟩:=uq rfl;clear yG h;refine aw ?_;refine SS ?_;obtain⟨x0,L9,_⟩:=M.sub _ (List.getElem_mem pD);have Ws:s[k]? =some (x0:Int):=by rw[List.getElem?_eq_getElem pD,L9]
        refine ab (b8 (α:=Nat×List Int×Bool)
         (fun u=>⟨az [(1,.pt (aG f)),(5,.sl (RW.map bq) RW.length),(6,bp AL),(7,.rs j 0 L.length),(8,I hd),(9,ax u.2.1),(12,B u.2.2),(13,I k),(14,I u.1)],aY [(j,.cells (L.flatMap dW) 74)],nx+1⟩)
         (fun u=>k<u.2.1.length/\o7 (aD f) (bu f) f.blocks.length hd u.2.1/\(u.2.2=false->u.2.1=s/\u.1<=(bu f x0).length/\∀ a∈(bu f x0).take u.1,dB (aD f) f.blocks.length a.toNat a.toNat=true->a∈s)/\(u.2.2=true->s.length<u.2.1.length)) (fun u=>if u.2.2=true then 0 else(bu f x0).length+1 - u.1) (0,s,false)
         (aE eH ⟨if_pos rfl,trivial⟩) ⟨pD,M,fun _=>⟨rfl,Nat.zero_le _,fun a ha=>by simp at ha⟩,fun h=>by cases h⟩ ?_)
        rintro⟨i,u,t⟩ ⟨Bn,zu,hu,Ma⟩;dsimp only at Bn zu hu Ma ⊢;obtain⟨x,hx,hxL⟩:=zu.sub _ (List.getElem_mem Bn);have n8:u[k]? =some (x:Int):=by rw[List.getElem?_eq_getElem Bn,hx]
        have zi:x<f.blocks.length:=oK hg (hxL.sI rh);have dT:=AR zi;have hun:=zu.len hg ao;have LM:=FT x
        have XQ:t=false->x=x0:=fun e=>by
         rw[(hu e).1,Ws] at n8;cases n8;rfl
        clear hx
        have JV:(x=hd\/¬ i<(bu f x).length\/t=true)->∀ env,lz [(1,.pt (aG f)),(5,.sl (RW.map bq) RW.length),(6,bp AL),(7,.rs j 0 L.length),(8,I hd),(9,ax u),(12,B t),(13,I ((k+1:Nat):Int))] env->uL prog (fun s:Nat×List Int×Bool=>(⟨az [(1,.pt (aG f)),(5,.sl (RW.map bq) RW.length),(6,bp AL),(7,.rs j 0 L.length),(8,I hd),(9,ax s.2.1),(12,B s.2.2),(13,I s.1)],aY [(j,.cells (L.flatMap dW) 74)],nx+1⟩:St))
         (fun zQ=>zQ.1<=zQ.2.1.length/\o7 (aD f) (bu f) f.blocks.length hd zQ.2.1/\(zQ.2.2=false->zQ.2.1=s/\∀ (i:Nat) (x:Nat),i<zQ.1->s[i]? =some (x:Int)->x≠hd->Gn f s x)/\(zQ.2.2=true->s.length<zQ.2.1.length)) (fun s=>if s.2.2=true then 0 else s.2.1.length - s.1) (k,s,false)
         ⟨env,aY [(j,.cells (L.flatMap dW) 74)],nx+1⟩:=fun hc env he=>by
         refine aJ (k+1,u,t) (aE he ⟨if_pos rfl,trivial⟩) ⟨Bn,zu,fun e=>?_,Ma⟩ ?_
         .dsimp only at e;obtain⟨u1,u2,u3⟩:=hu e;have zd:=XQ e;refine⟨u1,fun i' y dh hy aB=>?_⟩;dsimp only at dh;by_cases ek:i'=k
          .subst ek;rw[Ws] at hy;have:x0=y:=by have:=Option.some.inj hy;omega
           subst this;rcases hc with hc|hc|hc
           .exact absurd (zd.symm.trans hc) aB
           .rw[zd] at hc;rw[List.take_of_length_le oG] at u3;exact u3
           .rw[e] at hc;cases hc
          .exact uq i' y oG hy aB
         .show(if t=true then 0 else u.length - (k+1))<s.length - k;split
          .omega
          .rename_i e;have:u=s:=(hu (by simpa using e)).1;subst this;omega
        by_cases Mb:x=hd
        .have gZ:((x:Int) !=(hd:Int))=false:=by simp[Mb]
         refine c8 ?_;(iterate 10 refine z fun _ _=>?_);refine af ?_;(iterate 2 refine z fun _ _=>?_);refine SS ?_;refine ab ⟨_,rfl,fun h=>oH,fun h=>?_⟩;show AOps _ _ _ _ _ _ _ _ _;refine au ?_;exact ab (JV (.inl Mb) _ ⟨rfl,rfl,rfl,rfl,rfl,rfl,rfl,rfl,trivial⟩)
        have gZ:((x:Int) !=(hd:Int))=true:=by simp;omega
        refine aL ?_;refine aL ?_;refine aP ?_;refine ab ⟨_,rfl,fun h=>?_,fun h=>?_⟩
        .have⟨hZ,L8⟩:i<(bu f x).length/\t=false:=by
          revert h;cases t<;>simp
         subst L8;obtain⟨rfl,DG,hu⟩:=hu rfl;have zd:=XQ rfl;subst zd;clear h Ma JV;have hy:(bu f x)[i]? =some (bu f x)[i]:=List.getElem?_eq_getElem hZ;have X:=List.getElem_mem hZ;have qK:(bu f x).take (i+1)=(bu f x).take i++[(bu f x)[i]]:=by rw[List.take_add_one,hy];rfl
         generalize (bu f x)[i]=c at hy X qK;have vD:=(hg.nE x c).1 X;obtain⟨m,rfl⟩:=Int.eq_ofNat_of_zero_le vD.1;rw[Int.toNat_natCast] at vD;have fY:=zu.put hg (List.mem_of_getElem? n8) Mb X;rw[Int.toNat_natCast] at fY;have hz:=oU vD.2.1;have og:=tA (b:=m) vD.2.1;generalize RR m=Rm at hz og;have Bm:=Bm (l:=u) (v:=(m:Int));have pI:=pI (l:=u) (n:=(m:Int)) oG
         have XR:∀ a∈(bu f x).take (i+1),a=(m:Int)\/a∈(bu f x).take i:=fun a ha=>by
          rw[qK,List.mem_append,List.mem_singleton] at ha;exact ha.symm
         refine ws ?_;refine aL ?_;refine af ?_;refine er ?_;cases ig:dB (aD f) f.blocks.length m m with
         |false=>
          rw[ig] at og;refine bF ?_;(iterate 4 refine z fun _ _=>?_);refine SS ?_;refine ab (aq rfl (fun h=>oH) fun h=>cg ?_);refine au ?_;refine ab (aJ (i+1,u,false) (aE eH ⟨if_pos rfl,trivial⟩) ⟨Bn,zu,fun _=>⟨rfl,by dsimp only;omega,fun a ha Eb=>?_⟩,fun h=>oH⟩ (by dsimp only;simp;omega));rcases XR a ha with rfl|ha
          .rw[Int.toNat_natCast,ig] at Eb;cases Eb
          .exact hu a ha Eb
         |true=>
          rw[ig] at og;have fY:=fY ig;cases Dg:AE u (m:Int) with
          |true=>
           rw[Dg] at Bm;refine bF ?_;refine af ?_;refine gc Bm ?_;refine af ?_;refine ab (aq rfl (fun h=>oH) fun h=>cg ?_);refine au ?_;refine ab (aJ (i+1,u,false) (aE eH ⟨if_pos rfl,trivial⟩) ⟨Bn,zu,fun _=>⟨rfl,by dsimp only;omega,fun a ha Eb=>?_⟩,fun h=>oH⟩ (by dsimp only;simp;omega));rcases XR a ha with rfl|ha
           .exact On.1 Dg
           .exact hu a ha Eb
          |false=>
           rw[Dg] at Bm;have ze:(m:Int)∉u:=fun h=>by rw[On.2 h] at Dg;cases Dg
           have fY:=fY ze
           have iC:u.length<(eA u (m:Int)).length:=by
            have:=Ox ze;omega
           refine bF ?_;refine af ?_;refine gc Bm ?_;refine af ?_;refine ab (aq rfl (fun h=>aj ?_) fun h=>oH);refine af ?_;refine cl pI ?_;refine SS ?_;refine ab (dz ?_);refine SS ?_;refine ab ?_;refine au ?_;refine ab (aJ (i+1,eA u (m:Int),true) (aE eH ⟨if_pos rfl,trivial⟩) ⟨by dsimp only;omega,fY,fun h=>oH,fun _=>iC⟩ (by dsimp only;simp;omega))
        .show AOps _ _ _ _ _ _ _ _ _
         have hc:x=hd\/¬ i<(bu f x).length\/t=true:=by
          revert h;cases t<;>simp;exact fun h=>.inr h
         refine au ?_;exact ab (JV hc _ ⟨rfl,rfl,rfl,rfl,rfl,rfl,rfl,rfl,trivial⟩)
       .refine aJ (s,t) (aE eH ⟨if_pos rfl,trivial⟩) ⟨M,fun e x hx aB=>?_⟩ ?_
        .dsimp only at e hx;obtain⟨rfl,uq⟩:=uq e
         have pD:¬ k<s.length:=by
          revert h;rw[e];simp
         obtain⟨i,hi⟩:=List.getElem?_of_mem hx;exact uq i x (by have:=(List.getElem?_eq_some_iff.1 hi).1;omega) hi aB
        .dsimp only;rw[if_pos ht];cases t with
         |false=>rw[(uq rfl).1];simp
         |true=>have:=yG rfl;simp;omega
      .have ho:=lS KM (Wr ht);rw[<- ho];exact aE eH ⟨if_pos rfl,trivial⟩
     .intro s uo;refine⟨_,uo,dz ?_⟩;have K7:=Ms L;obtain⟨cs,fL⟩:∃ cs,L.flatMap dW=cs:=⟨_,rfl⟩
      rw[fL] at K7 aA ⊢;refine aK ?_;refine tH (tl rfl (ap oG aA) rfl V.h V.h (sQ (up_same _ _ _) rfl) rfl) ak ⟨V.h,rfl,(by first|omega|exact Nat.le_of_ble_eq_true rfl|(simp;done)|(simp;omega)),oC,(by first|rfl|(simp;done)|(simp;omega)),(by unfold maxLen;first|omega|(simp;omega)),(by rw[GV];first|omega|(simp;omega)),(by first|(simp;done)|(simp;omega))⟩ ?_;refine SS ?_;refine ab ?_;refine au ?_;refine ab (aJ (hd+1,nx+1+1,nx+1+2) (aE ⟨rfl,rfl,rfl,?_,rfl,trivial⟩ ⟨?_,trivial⟩) ⟨by dsimp only;omega,by dsimp only;omega,by dsimp only;rw[J];simp;omega⟩ oM)
      .dsimp only;rw[J,List.length_append];rfl
      .dsimp only;rw[J,Yi,fL];exact up_same _ _ _
   .have aX:¬ hd<f.blocks.length:=by simpa using h
    have:hd=f.blocks.length:=by omega
    subst this;exact⟨j,nx,aE eH ⟨if_pos rfl,trivial⟩⟩
  .rintro s ⟨j,nx,uo⟩;refine⟨_,uo,aw ?_⟩;generalize nr (aD f) (bu f) f.blocks.length f.blocks.length=L;refine au ?_;refine ab (aO (bw [(j,L.flatMap dW,74)] ⟨if_pos rfl,trivial⟩ (l:=[(2,nR L),(3,I 0)]) ⟨?_,rfl,trivial⟩) (j6 rfl rfl rfl));show sub (fz0 j _ (prog.cellsOf 74)) (D.rs j 0 L.length)=_;rw[iY (by rw[LI];exact Ms L)];rfl
 .rw[if_neg U];generalize cR f=ce at U ld ⊢;have gZ:(ce !=0)=true:=by simp[U]
  refine SS ?_;refine cl ld ?_;refine SS ?_;refine ab (aC (aj ?_));refine af ?_;refine ab (bh rfl (fun _=>?_) fun h=>oH);refine aC (aj ?_);refine au ?_;exact ab (cU (j6 rfl rfl rfl))
set_option maxHeartbeats 1000000 in
theorem Bo{f:aF}(hs:uO f)(hw:∀ b∈f.blocks,b.fin.aI.length<=9):PCall prog 44 [.agg (aG f)] (pu f):=by
 have ld:=ld hs hw
 have aW:Tr (pu f):=by
  unfold pu;split
  .exact .tup (.cons (.s _) (.cons (.s _) .nil))
  .exact .tup (.cons (.s _) (.cons (.s _) .nil))
 refine a9 mixed Wt (by rw[anc];rfl) (.cons (.agg (gn f)) .nil) aW ?_;rw[ane,anf];unfold pu;refine aw ?_;refine au ?_;refine ab (aO (bw [(0,aG f,26)] eH (l:=[(1,.pt (aG f))]) eH) (aj ?_));by_cases M:cR f=0
 .rw[M] at ld;rw[if_pos M];have X:=Aj (vN M);have A8:=X.ok.gO;have lh:=X.ok.pos;have hg:=tO X.ok;have nz:=nz X hw;rw[H2] at nz;have nF:=Wp (vN M) hw;have AR:=fun {k:Nat} (h:k<f.blocks.length)=>NA (vN M) h;have za:(iL f.blocks).length=f.blocks.length:=by simp[iL]
  generalize iL f.blocks=AL at nF AR za;have oU:=fun {b:Nat} (h:b<f.blocks.length)=>H3 (beh:=aD f) h;have tA:=fun {a b:Nat} (h:a<f.blocks.length)=>Hs (beh:=aD f) (b:=b) h;have DC:((List.range f.blocks.length).map fun b=>je (aD f) f.blocks.length b).length=f.blocks.length:=by simp
  generalize ((List.range f.blocks.length).map fun b=>je (aD f) f.blocks.length b)=RW at nz oU DC;generalize xg:je (aD f) f.blocks.length=RR at oU tA;clear xg;have FT:=BH X.ok;have aU:=Zq hg;have UK:=fun {l:List Bool}=>abI X.ok (l:=l);have qR:=Wi X hw (w:= -1);generalize a8 (aD f) f.blocks.length (-1)=R0 at qR aU;generalize yK f=rg at UK ⊢;refine SS ?_;refine cl ld ?_;refine SS ?_;refine ab (aC (aj ?_));refine af ?_;refine ab (bh rfl (fun h=>oH) fun _=>bS (aj ?_));refine SS ?_;refine cl nz ?_;refine SS ?_;refine er ?_;refine SS ?_;refine uM qR rfl (by repeat' (first|exact trivial|exact rfl|refine And.intro ?_ ?_)) ?_;refine SS ?_;refine ab (aC (aw ?_));refine SS ?_
  refine ab (bO (fun s=>∃ l:List Bool,Ghost prog s ⟨az [(6,.rs 1 0 f.blocks.length)],aY [(1,.cells (l.map B) 4)],2⟩/\l.length=f.blocks.length/\(rg=true↔∀ b,l.getD b false=false)) (uA (α:=List Bool×Bool)
   (fun s=>⟨az [(1,.pt (aG f)),(5,.sl (RW.map bq) RW.length),(6,.rs 1 0 f.blocks.length),(7,B s.2)],aY [(1,.cells (s.1.map B) 4)],2⟩)
   (fun s=>Ad (aD f) f.blocks.length s.1/\(s.2=false->∀ b,s.1.getD b false=true->KN f s.1 b)) (fun s=>2*s.1.count true+if s.2=true then 1 else 0) (R0,true)
   (aE eH ⟨up_same _ _ _,trivial⟩) ⟨aU,fun h=>by cases h⟩ ?_) ?_)
  .clear aU qR;rintro⟨l0,t0⟩ ⟨k9,tZ⟩;dsimp only at k9 tZ ⊢;refine SS ?_;refine ab ⟨_,rfl,fun ht=>?_,fun ht=>?_⟩
   .refine ws ?_;refine SS ?_;refine ab (aw ?_);refine SS ?_
    refine ab (b8 (α:=Nat×List Bool×Bool)
     (fun s=>⟨az [(1,.pt (aG f)),(5,.sl (RW.map bq) RW.length),(6,.rs 1 0 f.blocks.length),(7,B s.2.2),(8,I s.1)],aY [(1,.cells (s.2.1.map B) 4)],2⟩)
     (fun s=>s.1<=f.blocks.length/\Ad (aD f) f.blocks.length s.2.1/\(s.2.2=false->s.2.1=l0/\∀ b,b<s.1->l0.getD b false=true->KN f l0 b)/\(s.2.2=true->s.2.1.count true<l0.count true)) (fun s=>f.blocks.length - s.1) (0,l0,false)
     (aE eH eH) ⟨Nat.zero_le _,k9,fun _=>⟨rfl,fun b hb=>absurd hb (Nat.not_lt_zero _)⟩,fun h=>by cases h⟩ ?_)
    rintro⟨b,l,t⟩ ⟨gP,hl,hf,l7⟩;dsimp only at gP hl hf l7 ⊢;have r9:(l.map B).length=f.blocks.length:=by rw[List.length_map];exact hl.1
    have ic:l.length=f.blocks.length:=hl.1;refine aK ?_;refine ab ⟨_,rfl,fun h=>?_,fun h=>?_⟩
    .have ao:b<f.blocks.length:=by simpa using h
     have dT:=AR ao;have w7:=FT b;have Be:=zT (l:=l) (i:=b) (by rw[hl.1];exact ao);have kd:=fu (f:=B) Be;have bC:=aaw hg hl ao;have fL:=abH (l:=l) (b:=b) (by rw[hl.1];exact ao);have XS:=fun(h:o8 f l b (bu f b)=false)=>aav h;have AS:∀ a∈bu f b,0<=a/\a.toNat<f.blocks.length:=fun a ha=>by have:=(hg.nE b a).1 ha;exact⟨this.1,this.2.1⟩
     have ajh:=Zp f l b
     have Wu:o8 f l b (bu f b)=true->∀ a∈bu f b,l.getD a.toNat false=false\/dB (aD f) f.blocks.length b a.toNat=true:=fun h a ha=>by
      have:=List.all_eq_true.1 h a ha;simpa using this
     refine aC (aj ?_);cases J:l.getD b false with
     |false=>
      rw[J] at kd;refine aK ?_;refine ab (bh rfl (fun h=>kF (qj ?_)) fun h=>oH);refine au ?_;refine ab (aJ (b+1,l,t) (aE eH eH) ⟨by dsimp only;omega,hl,fun h=>⟨(hf h).1,fun x hx C=>?_⟩,l7⟩ oM);dsimp only at hx;by_cases e:x=b
      .subst e;rw[<- (hf h).1,J] at C;cases C
      .exact(hf h).2 x oG C
     |true=>
     rw[J] at kd;have fL:=fL J;generalize aqY:bu f b=al at dT w7 bC XS AS Wu;refine aK ?_;refine ab (bh rfl (fun h=>oH) fun h=>bS (aj ?_));refine SS ?_;refine cl nF ?_;refine aP ?_;refine er ?_;refine SS ?_;refine ab (aC (aw ?_));refine SS ?_
     refine ab (bO (fun s=>Ghost prog s ⟨az [(1,.pt (aG f)),(5,.sl (RW.map bq) RW.length),(6,.rs 1 0 f.blocks.length),(7,B t),(8,I b),(10,B (o8 f l b al))],aY [(1,.cells (l.map B) 4)],2⟩) (b8 (α:=Nat)
      (fun i=>⟨az [(1,.pt (aG f)),(5,.sl (RW.map bq) RW.length),(6,.rs 1 0 f.blocks.length),(7,B t),(8,I b),(9,ax al),(10,B (o8 f l b (al.take i))),(11,I i)],aY [(1,.cells (l.map B) 4)],2⟩)
      (fun i=>i<=al.length) (fun i=>al.length - i) 0 (aE eH eH) (Nat.zero_le _) ?_) ?_)
     .clear kd;intro i hi;refine aP ?_;refine ab ⟨_,rfl,fun h=>?_,fun h=>?_⟩
      .have hZ:i<al.length:=by simpa using h
       have hy:al[i]? =some al[i]:=List.getElem?_eq_getElem hZ;have fN:=AS _ (List.getElem_mem hZ)
       have U:o8 f l b (al.take (i+1))=(o8 f l b (al.take i)&&(!(l.getD al[i].toNat false)||dB (aD f) f.blocks.length b al[i].toNat)):=by
        rw[List.take_add_one,hy];exact ajh _ _
       generalize al[i]=c at hy fN U;obtain⟨m,rfl⟩:=Int.eq_ofNat_of_zero_le fN.1;rw[Int.toNat_natCast] at fN U;have hz:=oU fN.2;have og:=tA (b:=m) ao;have DR:=zT (l:=l) (i:=m) (by rw[hl.1];exact fN.2);have kd:=fu (f:=B) DR;generalize RR m=Rm at hz og;generalize o8 f l b (al.take i)=fr at U ⊢;generalize dB (aD f) f.blocks.length b m=dd at og U;generalize l.getD m false=lm at kd U;refine dz ?_;cases fr with
       |false=>
        refine aL ?_;refine aL ?_;refine bD ?_;refine ab ?_;refine au ?_;refine ab (aJ (i+1) (aE ⟨rfl,rfl,rfl,rfl,rfl,rfl,by rw[U];rfl,rfl,trivial⟩ eH) oG oG)
       |true=>
        cases lm with
        |false=>
         refine aL ?_;refine aL ?_;refine bD ?_;refine ab ?_;refine au ?_;refine ab (aJ (i+1) (aE ⟨rfl,rfl,rfl,rfl,rfl,rfl,by rw[U];rfl,rfl,trivial⟩ eH) oG oG)
        |true=>
         refine aL ?_;refine aL ?_;refine bD ?_;refine ab ?_;refine au ?_;refine ab (aJ (i+1) (aE ⟨rfl,rfl,rfl,rfl,rfl,rfl,by rw[U];cases dd<;>rfl,rfl,trivial⟩ eH) oG oG)
      .have aX:¬ i<al.length:=by simpa using h
       refine aE ⟨rfl,rfl,rfl,rfl,rfl,?_,trivial⟩ eH;rw[List.take_of_length_le oG];rfl
     .intro s uo;refine⟨_,uo,aj ?_⟩;refine SS ?_;cases so:o8 f l b al with
      |false=>
       refine ab (aq rfl (fun h=>oH) fun h=>cg ?_);refine au ?_;refine ab (aJ (b+1,l,t) (aE eH eH) ⟨by dsimp only;omega,hl,fun h=>⟨(hf h).1,fun x hx C=>?_⟩,l7⟩ oM);dsimp only at hx;by_cases e:x=b
       .subst e;rw[<- (hf h).1];exact XS so
       .exact(hf h).2 x oG C
      |true=>
       have D2:=bC (Wu so);refine ab (aq rfl (fun h=>aj ?_) fun h=>oH);refine aP ?_;refine ab (dz ?_);refine SS ?_;refine ab ?_;refine au ?_;refine ab (aJ (b+1,l.set b false,true) (aE eH ⟨by rw[List.map_set];rfl,trivial⟩) ⟨by dsimp only;omega,D2,fun h=>oH,fun _=>?_⟩ oM);dsimp only;cases t with
       |false=>rw[(hf rfl).1] at fL ⊢;exact fL
       |true=>exact Nat.lt_trans fL (l7 rfl)
    .have aX:¬ b<f.blocks.length:=by simpa using h
     refine aJ (l,t) (aE eH eH) ⟨hl,fun h x C=>?_⟩ ?_
     .dsimp only at h C ⊢;rw[(hf h).1] at C ⊢;by_cases hxb:x<b
      .exact(hf h).2 x hxb C
      .exfalso;have:=hl.1;rw[(hf h).1] at this;rw[List.getD_eq_getElem?_getD,List.getElem?_eq_none oG] at C;cases C
     .dsimp only;rw[if_pos ht];cases t with
      |false=>rw[(hf rfl).1];simp
      |true=>have:=l7 rfl;simp;omega
   .exact⟨l0,aE eH eH,k9.1,UK k9 (tZ ht)⟩
  .clear aU qR;rintro s ⟨l,uo,ic,XT⟩;refine⟨_,uo,aC (aw ?_)⟩;have r9:(l.map B).length=f.blocks.length:=by rw[List.length_map];exact ic
   refine SS ?_
   refine ab (bO (fun s=>Ghost prog s ⟨az [],fun _=>none,2⟩/\rg=true) (b8 (α:=Nat)
    (fun b=>⟨az [(6,.rs 1 0 f.blocks.length),(12,I b)],aY [(1,.cells (l.map B) 4)],2⟩)
    (fun b=>b<=f.blocks.length/\∀ x,x<b->l.getD x false=false) (fun b=>f.blocks.length - b) 0 (aE eH eH) ⟨Nat.zero_le _,fun x hx=>absurd hx (Nat.not_lt_zero _)⟩ ?_) ?_)
   .rintro b ⟨gP,hinv⟩;refine aP ?_;refine ab ⟨_,rfl,fun h=>?_,fun h=>?_⟩
    .have ao:b<f.blocks.length:=by simpa using h
     have Be:=zT (l:=l) (i:=b) oG;have kd:=fu (f:=B) Be;refine ws ?_;cases J:l.getD b false with
     |false=>
      rw[J] at kd;refine aP ?_;refine ab (aq rfl (fun h=>oH) fun h=>cg ?_);refine au ?_;refine ab (aJ (b+1) (aE eH eH) ⟨by omega,fun x hx=>?_⟩ oG);by_cases e:x=b
      .subst e;exact J
      .exact hinv x oG
     |true=>
      rw[J] at kd
      have hD:rg=false:=by
       cases e:rg with
       |false=>rfl
       |true=>rw[(XT.1 e) b] at J;cases J
      refine aP ?_;refine ab (aq rfl (fun h=>aj ?_) fun h=>oH);refine af ?_;refine ab (aV (cq (aT (j6 (d:=B false) (e:=I 0) rfl rfl ?_))));rw[hD]
    .have aX:¬ b<f.blocks.length:=by simpa using h
     refine⟨fw (l:=[]) trivial,XT.2 fun x=>?_⟩;by_cases hx:x<b
     .exact hinv x hx
     .rw[List.getD_eq_getElem?_getD,List.getElem?_eq_none oG];rfl
   .rintro s ⟨hg,hr⟩;refine⟨_,hg,aj ?_⟩;refine af ?_;refine ab (j6 (d:=B true) (e:=I 0) rfl rfl ?_);rw[hr]
 .rw[if_neg M];generalize cR f=ce at M ld ⊢;have gZ:(ce !=0)=true:=by simp[M]
  refine SS ?_;refine cl ld ?_;refine SS ?_;refine ab (aC (aj ?_));refine af ?_;refine ab (bh rfl (fun _=>?_) fun h=>oH);refine aC (aj ?_);refine au ?_;exact ab (cU (j6 rfl rfl rfl))
theorem ang{l:List (List Int)}:PCall prog 25 [.sl (l.map zL) l.length,bp l] (B true):=by
 have:=xH (a:=l) (b:=l);rw[decide_eq_true rfl] at this;refine ET this rfl (fun k d d' hd C=>?_) (.cons (.sl (.map T5)) (.cons (sT _) .nil))
 match k with
 |0=>cases hd;cases C;exact adn l
 |1=>cases hd;cases C;exact vU _
 |k+2=>simp at hd
theorem anh:PCall prog 45 [.z,.z] (B true):=by
 have:=sG (a:=[]) (b:=[]);rw[decide_eq_true rfl] at this;refine ET this rfl (fun k d d' hd C=>?_) (.cons .z (.cons .z .nil))
 match k with
 |0=>cases hd;cases C;exact wG
 |1=>cases hd;cases C;exact wG
 |k+2=>simp at hd
theorem ani{l:List (Int×List Int)}:PCall prog 45 [sY l,nR l] (B true):=by
 have:=sG (a:=l) (b:=l);rw[decide_eq_true rfl] at this;refine ET this rfl (fun k d d' hd C=>?_) (.cons (Ov _) (.cons (Fv _) .nil))
 match k with
 |0=>cases hd;cases C;exact adO l
 |1=>cases hd;cases C;exact vU _
 |k+2=>simp at hd
theorem k10{f:aF}(hs:uO f)(M:PCall prog 17 [] (B true)):PCall prog 10 [.agg (aG f)] (B true):=by
 have DP:=DP (f:=f);refine a9 mixed Wv (by rw[anj];rfl) (.cons (.agg (gn f)) .nil) (Tr.s _) ?_;have U:po f=true->_:=aat;have X:po f=true->_:=acs;generalize po f=fb at DP U X;rw[ank,anl];refine aw ?_;refine af ?_;refine ab (aO (bw [(0,aG f,26)] eH (l:=[(1,.pt (aG f))]) eH) (aC (aj ?_)));refine SS ?_;refine cl DP ?_;refine SS ?_;refine ab (bh rfl (fun h=>?_) fun h=>bS (aj ?_))
 .refine aC (aj ?_);refine cl M ?_;refine SS ?_;exact ab (cU (ay rfl rfl))
 have Me:fb=true:=by revert h;cases fb<;>simp
 have hw:=U Me;have X:=X Me;clear h DP U Me;have su:=su hs hw;have sH:=sH hs hw;have Bo:=Bo hs hw;have Bi:=Bi (f:=f);have qO:=qO (f:=f);obtain⟨x,e,hr⟩:=abJ f;rw[hr] at Bi Bo;unfold BU at sH;unfold we at qO;unfold BP at su;rcases Zr f with⟨J,so⟩|⟨J,so⟩
 .have C:=acz J;rw[so] at C;rw[if_neg J] at su qO sH;generalize cR f=ce at C su qO sH;have xH:=am3;have sG:=anh;refine SS ?_;refine cl C ?_;refine aK ?_;refine er ?_;refine SS ?_;refine cl su ?_;refine aK ?_;refine er ?_;refine SS ?_;refine cl qO ?_;refine aK ?_;refine er ?_;refine SS ?_;refine cl sH ?_;refine aK ?_;refine er ?_;refine SS ?_;refine cl Bi ?_;refine aK ?_;refine er ?_;refine SS ?_;refine cl Bo ?_;refine aK ?_;refine er ?_;refine cl M ?_;refine au ?_;refine gc xH ?_;refine aL ?_;refine gc sG ?_;refine aL ?_;refine bF ?_;exact ab (ay rfl (congrArg B oS))
 .have bB:=uG (vN J);have anm:f.blocks.length<=24:=by have:=bB.gO;omega
  have C:=Rr J anm;rw[so] at C;rw[if_pos J] at su qO sH;have hfe:wa (aD f) f.blocks.length=uH f:=front_eq (tO bB) (E7 bB);rw[hfe] at su;have xH:=ang (l:=uH f);have sG:=ani (l:=Ac f);generalize uH f=fl at C su xH;generalize Ac f=ll at qO sH sG;have ao:=Yp ll;unfold nR at sH sG ao;rcases ao with ao|ao
  .rw[ao] at qO sG;refine SS ?_;refine cl C ?_;refine aK ?_;refine er ?_;refine SS ?_;refine cl su ?_;refine aK ?_;refine er ?_;refine SS ?_;refine cl qO ?_;refine aK ?_;refine er ?_;refine SS ?_;refine cl sH ?_;refine aK ?_;refine er ?_;refine SS ?_;refine cl Bi ?_;refine aK ?_;refine er ?_;refine SS ?_;refine cl Bo ?_;refine aK ?_;refine er ?_;refine cl M ?_;refine au ?_;refine gc xH ?_;refine aL ?_;refine gc sG ?_;refine aL ?_;refine bF ?_;exact ab (ay rfl (congrArg B oS))
  .rw[ao] at qO sG;refine SS ?_;refine cl C ?_;refine aK ?_;refine er ?_;refine SS ?_;refine cl su ?_;refine aK ?_;refine er ?_;refine SS ?_;refine cl qO ?_;refine aK ?_;refine er ?_;refine SS ?_;refine cl sH ?_;refine aK ?_;refine er ?_;refine SS ?_;refine cl Bi ?_;refine aK ?_;refine er ?_;refine SS ?_;refine cl Bo ?_;refine aK ?_;refine er ?_;refine cl M ?_;refine au ?_;refine gc xH ?_;refine aL ?_;refine gc sG ?_;refine aL ?_;refine bF ?_;exact ab (ay rfl (congrArg B oS))
end Go.Proofs.Tryz.K
namespace Go.Proofs.Tryz.K
theorem abK{f:aF}(C:uO f):PCall prog 10 [.agg (aG f)] (B true):=k10 C ams
end Go.Proofs.Tryz.K
end
