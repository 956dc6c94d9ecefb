/- Part 13. -/
import Derived.Test.YtnagfmlifobdiaaGreatDoorShareApart12
set_option linter.all false
set_option maxHeartbeats 0
set_option maxRecDepth 10000
section
open Go Go.Proofs List
namespace Go.Abs
open Go.Proofs.Tryz
section
def Gi(l:List az):List D:=if(dK l).2=0 then jq l (dL l) ((bC l).map a7) else [.z,.z,.z]
def alJ(l:List az):∀ a∈Gi l,Tr a:=by
 unfold Gi;split
 .exact Q6 _ _ _
 .exact .cons .z (.cons .z (.cons .z .nil))
def Q8{l:List az}(h:(dK l).2=0):Gi l=jq l (dL l) ((bC l).map a7):=bi h
def Qv{l:List az}(h:(dK l).2≠0):Gi l=[.z,.z,.z]:=ai h
def alK{s:ByteArray}{fs:List ByteArray}{k:Nat}(hk:fs.length=k)(h:hZ fs s=false):mG (.string s) (I (k:Nat)) (ia fs)=ia (fs++[s]):=by
 subst hk;exact aaF h
structure OB(m:Mem)(q nx:Nat)(l:List az)(x1 x2:D)(sh:List ByteArray)(ca:List (List Int)):Prop where
 r0:m 0=some (.cells [.z,.z,.z] 82)
 rq:m q=some (.cells [bS l,x1,x2] 82)
 lt:0<q/\q<nx
 gr:(sh=[]/\ca=[]/\x1=.z/\x2=.z)\/∃ r1 r2,r1≠r2/\q<r1/\r1<nx/\q<r2/\r2<nx/\x1=.rs r1 0 sh.length/\x2=.rs r2 0 ca.length/\m r1=some (.cells (sh.map S) 9)/\m r2=some (.cells (ca.map aU) 43)
variable{sh:List ByteArray}{ca:List (List Int)}
def OB.mono{m m':Mem}{q nx nx':Nat}{l:List az}{x1 x2:D}(h:OB m q nx l x1 x2 sh ca)(hm:∀ j,j<nx->m' j=m j)(hn:nx<=nx'):OB m' q nx' l x1 x2 sh ca:=by
 refine⟨by rw[hm 0 (by have:=h.lt;omega)];exact h.r0,by rw[hm q h.lt.2];exact h.rq,by have:=h.lt;omega,?_⟩;rcases h.gr with g|⟨r1,r2,C,J,M,U,X,g6,g7,g8,g9⟩
 .exact .inl g
 .exact .inr ⟨r1,r2,C,J,oG,U,oG,g6,g7,by rw[hm r1 M,g8],by rw[hm r2 X,g9]⟩
variable{X:Nat->Prop}
def anJ(l:List ByteArray):∀ d∈l.map S,jG X d:=λd hd=>by
 obtain⟨s,_,rfl⟩:=mem_map.1 hd;exact .s _
def XD(l:List (List Int)):∀ d∈l.map aU,jG X d:=λd hd=>by
 obtain⟨s,_,rfl⟩:=mem_map.1 hd;exact .sl _ _
def OB.Ho{m:Mem}{q nx nx' i sz:Nat}{l:List az}{x1 x2:D}{cs:List D}(h:OB m q nx l x1 x2 sh ca)(hi:nx<=i)(hn:nx<=nx'):OB (nU i cs sz m) q nx' l x1 x2 sh ca:=by
 have hz:∀ d∈[D.z,.z,.z],jG (λk=>k=i) d:=λd hd=>by
  simp[mem_cons,not_mem_nil,or_false,or_self] at hd;subst hd;exact .z
 refine⟨vw h.r0 (by have:=h.lt;omega) (.cells hz),?_,by have:=h.lt;omega,?_⟩
 .refine vw h.rq (by have:=h.lt;omega) (.cells λd hd=>?_);simp[mem_cons,not_mem_nil,or_false] at hd;rcases h.gr with⟨_,_,C,J⟩|⟨r1,r2,C,J,g3,X,g5,M,U,g8,g9⟩
  .subst C J;rcases hd with rfl|rfl|rfl
   .exact .sl _ _
   .exact .z
   .exact .z
  .subst M U;rcases hd with rfl|rfl|rfl
   .exact .sl _ _
   .exact .rs oG
   .exact .rs oG
 .rcases h.gr with g|⟨r1,r2,C,J,g3,X,g5,M,U,g8,g9⟩
  .exact .inl g
  .exact .inr ⟨r1,r2,C,J,oG,X,oG,M,U,vw g8 oG (.cells (anJ _)),vw g9 oG (.cells (XD _))⟩
end
def VF{f:az}(h:eF f=0):aH prog 67 [.agg (aL f)] (S (tW f)):=by
 have hb:=Fx (Go.Abs.checked h)
 have VC:aH prog 57 [.agg (aL f),S AU,.fn (.func 112) [] []] (.agg (aL (o7 f))):=VC (to:=λ_=>AU) (.fn oS oS) (λX i cs sz _=>rfl) (λb _ _=>au6) (by have:=hb.aj;omega) (by have:=hb.a6;omega) (by have:=hb.sigs;omega) (by have:=hb.mh;omega) λb C=>by
  have h1:=hb.cn b C;have h2:=h1.len;have J:=h1.fin.len;have M:=h1.fin.aK;have U:=h1.fin.ins.len;exact⟨oG,λx hx=>by have:=(h1.ins x hx).len;omega,oG,oG,oG⟩
 have NW:=NW (f:=o7 f) λ_=>aoY (Q9 h);rw[P6 h,bi rfl] at NW;refine bx (fo f67) (.cons (.agg (gS f)) .nil) (Tr.s _) ?_;refine aA (ag ?_);refine af (br (cH [(0,aL f,48)] eH (l:=[(1,.pt (aL f))]) eH) (al ?_));refine aQ ?_;refine aI (wE (v:=.s (.string _)) rfl rfl) ak (by first|decide|simp) (ax ?_);refine er (ag ?_);exact af (aC rfl rfl)
def alL(s:ByteArray)(fs:List ByteArray):lg prog 144 false (fF (.string s) (ia fs))=I (if hZ fs s then(mH fs s:Nat) else 0:Nat):=by
 rw[Q7];cases hZ fs s with
 |true=>rfl
 |false=>
  show rF prog (qL prog 144)=_;rw[ac1];rfl
def tD{l:List az}(hl:l.length<=1000):aH prog 43 [bS l] (.bu [.agg (Gi l),I (dK l).2]):=by
 have OW:=OW (l:=l) (λh f hf=>aaG oG h hf) oG;refine bx (fo f43) (.cons (kV l) .nil) (.bu (.cons (.agg (alJ l)) fp)) ?_;refine ws (ag ?_);refine af (aG (al (ek ?_)));refine af (aG (al (ag ?_)));have U:=FQ (l:=l);have On:=Q8 (l:=l);have aea:=Qv (l:=l);generalize (dK l).2=err at*
 generalize Gi l=oD at*
 refine af (cM rfl (λh=>aG (al ?_)) λh=>cI (al ?_))
 .have h:err≠0:=s0 h
  rw[aea h];refine aQ ?_;exact af (de (Bb (kz rfl rfl VG VH rfl t82 (bY 3)) rfl rfl))
 have h:err=0:=s0 h
 subst h;have hL:=U rfl;rw[On rfl];clear On aea U OW;refine ag ?_;refine af (aG (aA (ax ?_)))
 refine af (cw (λs=>∃ nx,0<nx/\aP prog s ⟨aD [(0,bS l),(2,.rp 0 0),(6,.im (ia (lV l)))],bA [(0,.cells [.z,.z,.z] 82)],nx⟩) (eB (α:=Nat×Nat)
  (λs=>⟨aD [(0,bS l),(2,.rp 0 0),(6,.mp 1),(25,bS l),(26,I l.length),(27,I s.1)],bA [(0,.cells [.z,.z,.z] 82),(1,.map (ia ((lV l).take s.1)))],s.2⟩)
  (λs=>s.1<=l.length/\1<s.2) (λs=>l.length - s.1) (0,_) (bp eH eH) ⟨Nat.zero_le _,oM⟩ ?_) ?_)
 .rintro⟨k,nx⟩ ⟨hk,dA⟩;dsimp only at hk dA ⊢;refine SS ?_;refine af ⟨_,rfl,λh=>?_,λh=>?_⟩
  .have ao:k<l.length:=s0 h
   clear h;let⟨f,hf⟩:=s3 l k ao
   have U':=hL.fresh hf;have eV:(lV l).take (k+1)=(lV l).take k++[f.name]:=by rw[take_add_one,getElem?_map,hf];rfl
   have nv:((lV l).take k).length=k:=by simp;omega
   generalize (lV l).take k=fs at*
   refine ws (cz ?_);refine af (gj ?_);have aF:∀ {a b},up (up (bA [(0,.cells [.z,.z,.z] 82),(1,.map (ia fs))]) nx a) nx b nx=b:=aw _ _ _;have aqN:∀ {a b},up (up (bA [(0,.cells [.z,.z,.z] 82),(1,.map (ia fs))]) nx a) nx b 1=some (.map (ia fs)):=ay oG (ay oG rfl);have kd:(aL f).drop (0+0)=S f.name::(aL f).drop 1:=rfl;refine aQ ?_;apply dH (IE (key:=.string f.name) (v:=I (k:Nat)) rfl aqN rfl rfl I7) aM ⟨I8,I6 _,Nw fs⟩;rw[alK nv U'];refine af (ag ?_);refine af (aW (k+1,nx+1) ?_ ⟨oM,oM⟩ oM);dsimp only;rw[eV];exact bp eH ⟨ay oG (ay oG (ay oG rfl)),aw _ _ _,aa⟩
  .have bt:¬ k<l.length:=s0 h
   have:k=l.length:=by omega
   subst this;rw[cX oS];exact⟨nx,oG,(aP.LJ _ _ _ 1 (ia (lV l)) rfl).trans (bp eH eH)⟩
 .rintro s ⟨q,VJ,M⟩;refine⟨_,M,al ?_⟩;clear M;refine aQ ?_;refine af (aG (aA (ax ?_)));have lx:(dL l).length=l.length:=by simp[dL]
  have dB:((bC l).map a7).length=l.length:=by simp
  refine af (cw (λs=>∃ x1 x2 m nx,OB m q nx l x1 x2 (dL l) ((bC l).map a7)/\aP prog s ⟨aD [(2,.rp 0 0),(9,.rp q 0)],m,nx⟩) (eB (α:=Nat×D×D×Mem×Nat)
   (λs=>⟨aD [(2,.rp 0 0),(6,.im (ia (lV l))),(9,.rp q 0),(39,bS l),(40,I l.length),(41,I s.1)],s.2.2.2.1,s.2.2.2.2⟩)
   (λs=>s.1<=l.length/\OB s.2.2.2.1 q s.2.2.2.2 l s.2.1 s.2.2.1 ((dL l).take s.1) (((bC l).map a7).take s.1)) (λs=>l.length - s.1) (0,.z,.z,_,_)
   (au eH) ⟨Nat.zero_le _,⟨ay oG (ay oG rfl),aw _ _ _,⟨VJ,oM⟩,.inl ⟨rfl,rfl,rfl,rfl⟩⟩⟩ ?_) ?_)
  .rintro⟨k,x1,x2,m,nx⟩ ⟨hk,C⟩;dsimp only at hk C ⊢;refine SS ?_;refine af ⟨_,rfl,λh=>?_,λh=>?_⟩
   .have ao:k<l.length:=s0 h
    clear h;let⟨f,hf⟩:=s3 l k ao
    have qb:=bD hf;have mf:=hL.sd f qb;have Qs:=Fx (Go.Abs.checked mf);have Vw:=Vw (f:=f) (by have:=Qs.mh;omega);have VF:=VF mf;have Em:(cU f.blocks).length<=100000:=by have:=zL f.blocks;have:=Qs.mh;omega
    have mb:(dL l).take (k+1)=(dL l).take k++[tW f]:=by
     have:(dL l)[k]? =some (tW f):=by simp[dL,hf]
     rw[take_add_one,this];rfl
    have O3:((bC l).map a7).take (k+1)=((bC l).map a7).take k++[a7 ((cU f.blocks).map (eN l))]:=by
     have:((bC l).map a7)[k]? =some (a7 ((cU f.blocks).map (eN l))):=by simp[bC,hf]
     rw[take_add_one,this];rfl
    have VK:((dL l).take k).length=k:=by rw[length_take];omega
    have hlc:(((bC l).map a7).take k).length=k:=by rw[length_take];omega
    generalize (dL l).take k=sh at*
    generalize ((bC l).map a7).take k=ca at*
    generalize cU f.blocks=cs at*
    generalize tW f=gP at*
    have azH:=C.lt;refine ws (aQ ?_);refine af (aA (SS ?_));refine af ⟨_,.oY _ _ _ 12 3 rfl,aG (aA ?_)⟩;have aF:∀ {a b c},up (up (up m nx a) nx b) (nx+1) c nx=b:=ay oG r9;refine ag ?_;refine ag ?_
    refine af (cw (λs=>∃ m' nx',OB m' q nx l x1 x2 sh ca/\m' nx=some (.cells (aL f) 48)/\nx+1<=nx'/\aP prog s ⟨aD [(2,.rp 0 0),(6,.im (ia (lV l))),(9,.rp q 0),(11,.rp nx 0),(12,aU (a7 (cs.map (eN l)))),(39,bS l),(40,I l.length),(41,I k)],m',nx'⟩) (eB (α:=Nat×Nat×Mem×Nat)
     (λs=>⟨aD [(2,.rp 0 0),(6,.im (ia (lV l))),(9,.rp q 0),(11,.rp nx 0),(12,.rs s.2.1 0 s.1),(39,bS l),(40,I l.length),(41,I k),(46,fT cs),(47,I cs.length),(48,I s.1)],s.2.2.1,s.2.2.2⟩)
     (λs=>s.1<=cs.length/\OB s.2.2.1 q nx l x1 x2 sh ca/\s.2.2.1 nx=some (.cells (aL f) 48)/\nx<s.2.1/\s.2.1<s.2.2.2/\s.2.2.1 s.2.1=some (.cells ((a7 ((cs.take s.1).map (eN l))).map I) 3)) (λs=>cs.length - s.1) (0,nx+1,_,_)
     (au eH) ⟨Nat.zero_le _,C.mono (λj hj=>(aV _ _ oG).trans ((aV _ _ oG).trans (aV _ _ oG))) (bY _),aF,oM,oM,aw _ _ _⟩ ?_) ?_)
    .rintro⟨j,r,m',nx'⟩ ⟨hj,J,xQ,qW,AV,p8⟩;dsimp only at hj J xQ qW AV p8 ⊢;refine SS ?_;refine af ⟨_,rfl,λh=>?_,λh=>?_⟩
     .have cW:j<cs.length:=s0 h
      clear h;let⟨y,hy⟩:=s3 cs j cW
      have htj:a7 ((cs.take (j+1)).map (eN l))=a7 ((cs.take j).map (eN l))++[((eN l y:Nat):Int)]:=by rw[take_add_one,hy];simp[a7]
      have tC:(a7 ((cs.take j).map (eN l))).length=j:=by simp;omega
      generalize a7 ((cs.take j).map (eN l))=out at*
      have aF:=p8;have jj:(out.map I).length=j:=s0 tC
      refine ws (ax ?_);refine af (gj (ax ?_));refine aI (HR rfl rfl I7 (alL y (lV l))) aM ⟨I8,I6 y,Nw _⟩ (ax ?_);refine af (ag ?_);refine af (aW (j+1,nx'+1,_,nx'+1+1) (au eH) ?_ oM);dsimp only;refine⟨oG,J.mono (λi hi=>(aV _ _ oG).trans ((aV _ _ oG).trans (aV _ _ oG))) (bY _),(aV _ _ oG).trans ((aV _ _ oG).trans ((aV _ _ oG).trans (xQ))),oG,oG,r9.trans ?_⟩;rw[htj];simp;rfl
     .have bt:¬ j<cs.length:=s0 h
      have:j=cs.length:=by omega
      subst this;rw[take_length] at p8;refine⟨nU r _ (prog.cellsOf 3) m',nx',J.Ho oG (bY _),vw xQ oG (.cells λd hd=>?_),oG,E' p8 ⟨lz oG,rfl,lz oG,lz oG,?_,rfl,rfl,rfl,aa⟩⟩
      .rw[<- append_nil (aL f)] at hd;simp[aL,append_nil,mem_cons,not_mem_nil,or_false] at hd;rcases hd with rfl|rfl|rfl|rfl|rfl|rfl|rfl|rfl<;>first|exact .s _|exact .sl _ _
      .show sub (dq r _ (prog.cellsOf 3)) (.rs r 0 cs.length)=_;rw[w8,c3,drop_zero,cX oS];simp
    .rintro s ⟨m',nx',J,xQ,AJ,M⟩;refine⟨_,M,?_⟩;clear M;apply Bp (hD [(0,3),(1,3),(3,6),(4,6),(5,6),(3,7),(4,7),(5,7),(9,11),(10,11)]);have aF:=J.rq;have kd:[bS l,x1,x2].drop (0+1)=x1::[x2]:=rfl;have kd2:[bS l,x1,x2].drop (0+2)=x2::[]:=rfl;refine ag ?_;have aF:=xQ;refine ax ?_;rcases J.gr with⟨h1,h2,rfl,rfl⟩|⟨r1,r2,g1,g2,g3,g4,g5,rfl,rfl,g8,g9⟩
     .apply di (kX rfl rfl V.h V.h (fZ r9 rfl)) ak ⟨V.h,cg,oC,da,(by rw[b9];first|omega|(simp;omega))⟩;have aF:∀ {a b},up (up m' nx' a) (nx'+1) b q=some (.cells [bS l,.z,.z] 82):=ay oG (ay oG J.rq);have kd:=kd2;refine aQ ?_;apply di (kX rfl rfl V.h V.h (fZ r9 rfl)) ak ⟨V.h,cg,oC,da,(by rw[Ez];first|omega|(simp;omega))⟩;have aF:∀ {a b c d},up (up (up (up m' nx' a) (nx'+1) b) (nx'+1+1) c) (nx'+1+1+1) d q=some (.cells [bS l,.z,.z] 82):=ay oG (ay oG (ay oG (ay oG J.rq)));refine ag ?_;have aF:∀ {a b c d e},up (up (up (up (up m' nx' a) (nx'+1) b) (nx'+1+1) c) (nx'+1+1+1) d) q e q=e:=aw _ _ _;refine ag ?_;refine bJ (by simp[sM];omega) (ag ?_);refine af (aW (k+1,.rs (nx'+1) 0 1,.rs (nx'+1+1+1) 0 1,_,nx'+1+1+1+1) (au eH) ?_ oM);dsimp only;subst h1 h2;have zw:k=0:=s0 VK.symm
      subst zw;refine⟨oG,(aV _ _ oG).trans ((aV _ _ oG).trans ((aV _ _ oG).trans ((aV _ _ oG).trans ((aV _ _ oG).trans ((aV _ _ oG).trans (J.r0)))))),aw _ _ _,⟨VJ,oG⟩,.inr ⟨nx'+1,nx'+1+1+1,oG,oG,oG,oG,oG,?_,?_,(aV _ _ oG).trans ((aV _ _ oG).trans ((aV _ _ oG).trans ((aV _ _ oG).trans (r9.trans ?_)))),(aV _ _ oG).trans ((aV _ _ oG).trans (r9.trans ?_))⟩⟩
      .rw[mb];rfl
      .rw[O3];rfl
      .rw[mb];rfl
      .rw[O3];rfl
     .have Gj:∀ {a},up m' nx' a r1=some (.cells (sh.map S) 9):=ay oG g8;apply eT (eQ rfl Gj rfl uP c9 (fZ r9 rfl) rfl) aM ⟨DT,rfl,bL rfl,oC,oS,by unfold maxLen;omega,by rw[b9];omega,by simp;omega⟩;have aF:∀ {a b c},up (up (up m' nx' a) r1 b) (nx'+1) c q=some (.cells [bS l,.rs r1 0 sh.length,.rs r2 0 ca.length] 82):=ay oG (ay oG (ay oG J.rq));have kd:=kd2;refine aQ ?_;have fJ:∀ {a b c d},up (up (up (up m' nx' a) r1 b) (nx'+1) c) (nx'+1+1) d r2=some (.cells (ca.map aU) 43):=ay oG (ay oG (ay oG (ay oG g9)));apply eT (eQ rfl fJ rfl e23 ly (fZ r9 rfl) rfl) aM ⟨aeb,rfl,bL rfl,oC,oS,by unfold maxLen;omega,by rw[Ez];omega,by simp;omega⟩;have aF:∀ {a b c d e f'},up (up (up (up (up (up m' nx' a) r1 b) (nx'+1) c) (nx'+1+1) d) r2 e) (nx'+1+1+1) f' q=some (.cells [bS l,.rs r1 0 sh.length,.rs r2 0 ca.length] 82):=ay oG (ay oG (ay oG (ay oG (ay oG (ay oG J.rq)))));refine ag ?_;have aF:∀ {a b c d e f' g},up (up (up (up (up (up (up m' nx' a) r1 b) (nx'+1) c) (nx'+1+1) d) r2 e) (nx'+1+1+1) f') q g q=g:=aw _ _ _;refine ag ?_;refine bJ (by simp[sM];omega) (ag ?_);refine af (aW (k+1,.rs (nx'+1) 0 (sh.length+1),.rs (nx'+1+1+1) 0 (ca.length+1),_,nx'+1+1+1+1) (au eH) ?_ oM);dsimp only;refine⟨oG,(aV _ _ oG).trans ((aV _ _ oG).trans ((aV _ _ oG).trans ((aV _ _ oG).trans ((aV _ _ oG).trans ((aV _ _ oG).trans ((aV _ _ oG).trans ((aV _ _ oG).trans (J.r0)))))))),aw _ _ _,⟨VJ,oG⟩,.inr ⟨nx'+1,nx'+1+1+1,oG,oG,oG,oG,oG,?_,?_,(aV _ _ oG).trans ((aV _ _ oG).trans ((aV _ _ oG).trans ((aV _ _ oG).trans ((aV _ _ oG).trans (r9.trans ?_))))),(aV _ _ oG).trans ((aV _ _ oG).trans (r9.trans ?_))⟩⟩
      .rw[mb,length_append];rfl
      .rw[O3,length_append];rfl
      .rw[mb,map_append];simp;rfl
      .rw[O3,map_append];rfl
   .have bt:¬ k<l.length:=s0 h
    have:k=l.length:=by omega
    subst this;rw[cX oG,cX oG] at C;exact⟨x1,x2,m,nx,C,au eH⟩
  .rintro s ⟨x1,x2,m,nx,C,M⟩;have ao:=C.lt
   have ED:∃ m2 iK,aP prog s ⟨aD [(2,.rp 0 0),(9,.rp q 0)],m2,iK⟩/\m2 0=some (.cells [.z,.z,.z] 82)/\m2 q=some (.cells (jq l (dL l) ((bC l).map a7)) 82):=by
    rcases C.gr with⟨h1,h2,rfl,rfl⟩|⟨r1,r2,g1,g2,g3,g4,g5,rfl,rfl,g8,g9⟩
    .rw[h1,h2];refine⟨up m q (some (.cells (jq l [] []) 82)),nx,M.trans (aP.xq _ _ _ _ _ (λt=>zT _) λi=>?_),(aV _ _ oG).trans C.r0,aw _ _ _⟩;by_cases hi:i=q
     .subst hi;refine .inr ⟨_,jq l [] [],82,C.rq,aw _ _ _,rfl,λk d d' hd jg=>?_⟩
      match k with
      |0=>cases (show some d=some d' from hd.symm.trans jg);exact zT _
      |1|2=>
       simp[jq,getElem?_cons_succ,getElem?_cons_zero,bg] at hd jg;subst hd jg;exact DV
      |k+3=>simp at hd
     .exact .inl (aV _ _ hi)
    .have hz:∀ X,∀ d∈[D.z,.z,.z],jG X d:=λX d hd=>by
      simp[mem_cons,not_mem_nil,or_false,or_self] at hd;subst hd;exact .z
     have e1:nU r1 ((dL l).map S) (prog.cellsOf 9) m r2=some (.cells (((bC l).map a7).map aU) 43):=vw g9 oG (.cells (XD _))
     have e2:nU r1 ((dL l).map S) (prog.cellsOf 9) m q=some (.cells [bS l,fT (dL l),.rs r2 0 ((bC l).map a7).length] 82):=by
      rw[nU,ai oG,C.rq];show some (Row.cells [bS l,sub (dq r1 ((dL l).map S) (prog.cellsOf 9)) (.rs r1 0 (dL l).length),sub (dq r1 ((dL l).map S) (prog.cellsOf 9)) (.rs r2 0 ((bC l).map a7).length)] 82)=_;rw[w8,yp oG,c9,drop_zero,cX oS]
     refine⟨nU r2 _ (prog.cellsOf 43) (nU r1 _ (prog.cellsOf 9) m),nx,M.trans ((E' (l:=[(2,.rp 0 0),(9,.rp q 0)]) g8 ⟨lz oG,lz oG,aa⟩).trans (E' e1 ⟨lz oG,lz oG,aa⟩)),vw (vw C.r0 oG (.cells (hz _))) oG (.cells (hz _)),?_⟩;generalize nU r1 ((dL l).map S) (prog.cellsOf 9) m=m1 at*
     rw[nU,ai oG,e2];show some (Row.cells [bS l,fT (dL l),sub (dq r2 (((bC l).map a7).map aU) (prog.cellsOf 43)) (.rs r2 0 ((bC l).map a7).length)] 82)=_;rw[w8,ly,drop_zero,cX oS];rfl
   let⟨m2,iK,Cx,q1,q2⟩:=ED;refine⟨_,Cx,al ?_⟩;clear Cx M;have aF:=q2;apply aI (gA rfl aF V.h V.h rfl) ak (gB V.h V.h c0);have aF:=q1;refine dH (jV rfl rfl aF rfl) ak (eO V.h V.h bk (by rfl)) (SS ?_);exact af (Bb (kz (cs:=jq l (dL l) ((bC l).map a7)) (vs:=jq l (dL l) ((bC l).map a7)) rfl rfl VG VH rfl t82 (bY 3)) rfl rfl)
section
variable{P:Program}{Y:iu}{rf:Bool}{Q:Exit->St->Prop}{st:St}{id jz:Nat}{body:Code}{α:Type}
end
section
variable{κ ι:Type}[DecidableEq κ][DecidableEq ι]
end
def Bd(l:List az)(sh:List ByteArray)(ca:List (List Int))(C:List Int):List D:=[bS l,fT sh,cr ca,aU C]
@[simp] theorem ay' (l : List az) (sh : List ByteArray) (ca : List (List Int)) (C : List Int) : (Bd l sh ca C).length = 4 := rfl
def eW.nil{m:Mem}{nx j:Nat}{e et:TypeId}{ρ:Nat->Nat}{L:Nat->List D}(hm:m j=some (.cells [] e))(hj:j<nx):eW m nx j 0 e et ρ L:=
 ⟨hm,hj,λ_ h=>absurd h (Nat.not_lt_zero _),λ_ h=>absurd h (Nat.not_lt_zero _),λ_ h=>absurd h (Nat.not_lt_zero _),λ_ _ h=>absurd h (Nat.not_lt_zero _)⟩
section
variable{κ:Type}[DecidableEq κ]
end
def alP{l:List az}{i j:Nat}{s t:ByteArray}(hi:(dL l)[i]? =some s)(hj:(dL l)[j]? =some t):((dS l).getD i 0==(dS l).getD j 0)=(s.toList==t.toList):=by
 have h1:(bT (dL l))[i]? =some ((dS l).getD i 0):=fx (by have:=(bQ.1 hi).1;simpa[dS] using this);have h2:(bT (dL l))[j]? =some ((dS l).getD j 0):=fx (by have:=(bQ.1 hj).1;simpa[dS] using this);have h:=Lw hi hj;rw[h1,h2,bg] at h;rw[ym,ym];by_cases e:s=t
 .rw[h.2 e,e];simp
 .rw[beq_eq_false_iff_ne.2 λC=>e (h.1 C),beq_eq_false_iff_ne.2 λC=>e (Ab C)]
def A'{α:Type}{p:α->Bool}{l:List α}{k:Nat}{x:α}(hx:l[k]? =some x)(h:(l.take k).all p=true)(hp:p x=true):(l.take (k+1)).all p=true:=by
 rw[take_add_one,hx,all_append,h];simp[hp]
def or5:∀ a b c d e:Bool,(if(if(if(if a=true then true else b)=true then true else c)=true then true else d)=true then true else e)=(a||(b||(c||(d||e)))):=by decide
def GH(f:az):Bool:=decide (12<(f.blocks.length:Int))||(decide (20<(f.aj.length:Int))||(decide (10<(f.a6.length:Int))||(decide (8<(f.signals.length:Int))||decide (130<(f.name.size:Int)))))
def DW(b:bI):Bool:=decide (8<(b.ins.length:Int))||(decide (8<(b.fin.aK.length:Int))||(decide (8<(b.fin.args.length:Int))||(decide (130<(b.fin.name.size:Int))||decide (8<(b.fin.ins.args.length:Int)))))
def GI(y:cq):Bool:=decide (14<(y.args.length:Int))
def GJ(w:jf):Bool:=decide (20<(w.name.size:Int))
def DX(s:ByteArray):Bool:=decide (20<(s.size:Int))
def xB(b:bI):Bool:= !DW b&&(b.ins.all (λy=> !GI y)&&b.fin.aK.all (λw=> !GJ w))
def vX(f:az):Bool:= !GH f&&(f.signals.all (λs=> !DX s)&&f.blocks.all xB)
def vY(l:List az):Bool:=l.all vX&&(decide ((l.length:Int)<=10)||(decide (60<(l.length:Int))&&decide ((l.length:Int)<=63)))
def aaI{l:List az}(h:vY l=true):l.length<=63:=by
 unfold vY at h;simp[aJ,Bool.or_eq_true,decide_eq_true_eq] at h;omega
def Ip{α:Type}{p:α->Bool}{l:List α}{x:α}(hx:x∈l)(h:p x=false):l.all p=false:=by
 rw[Bool.eq_false_iff];intro ht;rw[bK.1 ht x hx] at h;cases h
def O9{l:List az}:aH prog 13 [bS l] (B (vY l)):=by
 refine nB (fo f13).he (.cons (kV l) .nil) λeS=>?_;have hlen:=(eS (bS l) oS).sl.1;unfold maxLen at hlen;refine bx (fo f13) (.cons (kV l) .nil) (Tr.s _) ?_;refine ws (SS ?_);refine af (aG (aA (SS ?_)))
 refine af (cw (λs=>(∃ nx,aP prog s ⟨aD [(0,bS l)],λ_=>none,nx⟩)/\l.all vX=true) (cT (α:=Nat×Nat) (λs=>⟨aD [(0,bS l),(3,I s.1)],λ_=>none,s.2⟩)
  (λs=>s.1<=l.length/\(l.take s.1).all vX=true) (λs=>l.length - s.1) (0,0) (au eH) ⟨Nat.zero_le _,rfl⟩ ?_) ?_)
 .rintro⟨t,nx⟩ ⟨ht,J⟩;dsimp only at ht J ⊢;refine aQ ?_;refine af ⟨_,rfl,λh=>?_,λh=>?_⟩
  .have VQ:t<l.length:=s0 h
   clear h;let⟨f,hf⟩:=s3 l t VQ
   have U:vX f=false->vY l=false:=λhb=>by
    rw[vY,Ip (bD hf) hb];rfl
   refine aA (bh ?_);refine dH (jV (cs':=aL f) rfl rfl r9 rfl) aM (eO t48 zz oS rfl) (af (br (gd (i:=nx) (l:=[(0,bS l),(3,I t),(4,.pt (aL f))]) r9 ⟨rfl,rfl,nh,aa⟩) (aG (al ?_))));refine aX ?_;refine aX ?_;refine ek ?_;refine cF rfl rfl (R7 rfl) (λhc=>⟨ak,V.h⟩) (ag ?_);have hd:GH f=_:=(or5 (decide (12<(f.blocks.length:Int))) (decide (20<(f.aj.length:Int))) (decide (10<(f.a6.length:Int))) (decide (8<(f.signals.length:Int))) (decide (130<(f.name.size:Int)))).symm;refine af (cM rfl (λh=>?_) λh=>cI (aG (aA ?_)))
   .have hb:GH f=true:=hd.trans h;refine aG (al (SS ?_));refine af (de (bP (aY (aC (d:=B false) rfl ?_))));rw[U (by rw[vX,hb];rfl)]
   have hH:GH f=false:=hd.trans h;clear hd h
   have Ts:f.blocks.length<=100000/\f.signals.length<=100000:=by
    unfold GH at hH;simp[Bool.or_eq_false_iff,decide_eq_false_iff_not] at hH;omega
   refine SS ?_
   refine af (cw (λs=>aP prog s ⟨aD [(0,bS l),(3,I t),(4,.pt (aL f))],λ_=>none,nx+1⟩/\f.signals.all (λs=> !DX s)=true) (cT (α:=Nat) (λk=>⟨aD [(0,bS l),(3,I t),(4,.pt (aL f)),(5,I k)],λ_=>none,nx+1⟩)
    (λk=>k<=f.signals.length/\(f.signals.take k).all (λs=> !DX s)=true) (λk=>f.signals.length - k) 0 (au eH) ⟨Nat.zero_le _,rfl⟩ ?_) ?_)
   .rintro k ⟨hk,hinv⟩;refine bh ?_;refine af ⟨_,rfl,λh=>?_,λh=>?_⟩
    .have ao:k<f.signals.length:=s0 h
     let⟨x,hx⟩:=s3 f.signals k ao
     refine ws (ek ?_);refine af (aB rfl (λhp=>al ?_) λhp=>cB ?_)
     .have hp:DX x=true:=hp;refine SS ?_;refine af (bj (bP (aY (bP (aY (aC (d:=B false) rfl ?_))))));rw[U (by rw[vX,Ip (p:=λs=> !DX s) (bD hx) (by rw[hp];rfl)];simp)]
     .have hp:DX x=false:=hp;show aE _ _ _ _ _ _ _ _ _;refine ax ?_;exact af (aW (k+1) (au eH) ⟨oG,A' hx hinv (by rw[hp];rfl)⟩ oG)
    .have M:¬ k<f.signals.length:=s0 h
     rw[cX oG] at hinv;exact⟨au eH,hinv⟩
   rintro s ⟨hg,aeh⟩;refine⟨_,hg,aA ?_⟩;refine SS ?_
   refine af (cT (α:=Nat×Nat) (λs=>⟨aD [(0,bS l),(3,I t),(4,.pt (aL f)),(6,I s.1)],λ_=>none,s.2⟩)
    (λs=>s.1<=f.blocks.length/\(f.blocks.take s.1).all xB=true) (λs=>f.blocks.length - s.1) (0,nx+1) (au eH) ⟨Nat.zero_le _,rfl⟩ ?_)
   rintro⟨k,ny⟩ ⟨hk,hinv⟩;dsimp only at hk hinv ⊢;refine bh ?_;refine af ⟨_,rfl,λh=>?_,λh=>?_⟩
   .have ao:k<f.blocks.length:=s0 h
    clear h;let⟨x,hx⟩:=s3 f.blocks k ao
    have X:xB x=false->vY l=false:=λhb=>U (by rw[vX,Ip (bD hx) hb];simp);refine aA (ek ?_);refine af (br (gd (i:=ny) (l:=[(0,bS l),(3,I t),(4,.pt (aL f)),(6,I k),(7,.pt (cE x))]) r9 ⟨rfl,rfl,rfl,rfl,nh,aa⟩) (aG (al ?_)));refine aX ?_;refine aX ?_;refine aQ ?_;refine cF rfl rfl (R7 rfl) (λhc=>⟨ak,V.h⟩) (cJ ?_);refine ag ?_;have hd:DW x=_:=(or5 (decide (8<(x.ins.length:Int))) (decide (8<(x.fin.aK.length:Int))) (decide (8<(x.fin.args.length:Int))) (decide (130<(x.fin.name.size:Int))) (decide (8<(x.fin.ins.args.length:Int)))).symm;refine af (cM rfl (λh=>?_) λh=>cI (aG (aA ?_)))
    .have hb:DW x=true:=hd.trans h;refine aG (al (SS ?_));refine af (de (bP (bP (aY (aC (d:=B false) rfl ?_)))));rw[X (by rw[xB,hb];rfl)]
    have hK:DW x=false:=hd.trans h;clear hd h
    have gh:x.ins.length<=100000/\x.fin.aK.length<=100000:=by
     unfold DW at hK;simp[Bool.or_eq_false_iff,decide_eq_false_iff_not] at hK;omega
    refine SS ?_
    refine af (cw (λs=>aP prog s ⟨aD [(0,bS l),(3,I t),(4,.pt (aL f)),(6,I k),(7,.pt (cE x))],λ_=>none,ny+1⟩/\x.ins.all (λy=> !GI y)=true) (cT (α:=Nat) (λj=>⟨aD [(0,bS l),(3,I t),(4,.pt (aL f)),(6,I k),(7,.pt (cE x)),(8,I j)],λ_=>none,ny+1⟩)
     (λj=>j<=x.ins.length/\(x.ins.take j).all (λy=> !GI y)=true) (λj=>x.ins.length - j) 0 (au eH) ⟨Nat.zero_le _,rfl⟩ ?_) ?_)
    .rintro j ⟨hj,C⟩;refine bh ?_;refine af ⟨_,rfl,λh=>?_,λh=>?_⟩
     .have cW:j<x.ins.length:=s0 h
      let⟨y,hy⟩:=s3 x.ins j cW
      refine ws (cJ ?_);refine af (aB rfl (λhp=>al ?_) λhp=>cB ?_)
      .have hp:GI y=true:=hp;refine SS ?_;refine af (bj (bP (aY (bP (bP (aY (aC (d:=B false) rfl ?_)))))));rw[X (by rw[xB,Ip (p:=λy=> !GI y) (bD hy) (by rw[hp];rfl)];simp)]
      .have hp:GI y=false:=hp;show aE _ _ _ _ _ _ _ _ _;refine ax ?_;exact af (aW (j+1) (au eH) ⟨oG,A' hy C (by rw[hp];rfl)⟩ oG)
     .have M:¬ j<x.ins.length:=s0 h
      rw[cX oG] at C;exact⟨au eH,C⟩
    rintro s ⟨hg,B7⟩;refine⟨_,hg,aA ?_⟩;refine SS ?_
    refine af (cT (α:=Nat) (λj=>⟨aD [(0,bS l),(3,I t),(4,.pt (aL f)),(6,I k),(7,.pt (cE x)),(9,I j)],λ_=>none,ny+1⟩)
     (λj=>j<=x.fin.aK.length/\(x.fin.aK.take j).all (λy=> !GJ y)=true) (λj=>x.fin.aK.length - j) 0 (au eH) ⟨Nat.zero_le _,rfl⟩ ?_)
    rintro j ⟨hj,C⟩;refine cz ?_;refine af ⟨_,rfl,λh=>?_,λh=>?_⟩
    .have cW:j<x.fin.aK.length:=s0 h
     let⟨y,hy⟩:=s3 x.fin.aK j cW
     refine ws (aX ?_);refine af (aB rfl (λhp=>al ?_) λhp=>cB ?_)
     .have hp:GJ y=true:=hp;refine SS ?_;refine af (bj (bP (bP (bP (aY (aC (d:=B false) rfl ?_))))));rw[X (by rw[xB,Ip (p:=λw=> !GJ w) (bD hy) (by rw[hp];rfl)];simp)]
     .have hp:GJ y=false:=hp;show aE _ _ _ _ _ _ _ _ _;refine ax ?_;exact af (aW (j+1) (au eH) ⟨oG,A' hy C (by rw[hp];rfl)⟩ oG)
    .have M:¬ j<x.fin.aK.length:=s0 h
     rw[cX oG] at C;show aE _ _ _ _ _ _ _ _ _;refine ax ?_;refine af (aW (k+1,ny+1) (au eH) ⟨oM,A' hx hinv ?_⟩ oM);rw[xB,hK,B7,C];rfl
   .have M:¬ k<f.blocks.length:=s0 h
    rw[cX oG] at hinv;show aE _ _ _ _ _ _ _ _ _;refine ax ?_;refine af (aW (t+1,ny) (au eH) ⟨oM,A' hf J ?_⟩ oM);rw[vX,hH,aeh,hinv];rfl
  .have M:¬ t<l.length:=s0 h
   rw[cX oG] at J;exact⟨⟨nx,au eH⟩,J⟩
 .rintro s ⟨⟨nx,hg⟩,J⟩
  have hb:vY l=(decide ((l.length:Int)<=10)||(decide (60<(l.length:Int))&&decide ((l.length:Int)<=63))):=by
   rw[vY,J,Bool.true_and]
  rw[hb];refine⟨_,hg,al ?_⟩;refine aX ?_;refine bh ?_;refine af (aC rfl ?_);show B _=B _;congr 1;cases decide ((l.length:Int)<=10)<;>cases decide ((60:Int)<l.length)<;>rfl
end Go.Abs
end
