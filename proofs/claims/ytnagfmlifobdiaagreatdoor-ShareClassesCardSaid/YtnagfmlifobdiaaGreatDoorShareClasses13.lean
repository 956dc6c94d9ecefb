/- Part 13. -/
import Derived.Test.YtnagfmlifobdiaaGreatDoorShareClasses12
set_option linter.all false
set_option maxHeartbeats 0
set_option maxRecDepth 10000
section
open Go Go.Proofs List
namespace Go.Abs
open Go.Proofs.Tryz
section
variable{f:az}{l:List az}
def aaG(hl:l.length<=1000000)(h:∀ g∈l,eF g=0)(hf:f∈l):L1 f l:=by
 have C:=checked (h f hf);have M:=yR C
 have J:∀ b∈f.blocks,gD f b.fin=true:=fun b hb=>by
  unfold iX at C;simp only[aJ] at C;let⟨k,hk⟩:=cV hb;have:=bK.1 C.2.2.2.1 k (mem_range.2 (bQ.1 hk).1);rw[kD,getD_some hk] at this;simp only[aJ] at this;exact this.1
 refine⟨hl,by have:=M.mh;omega,λb hb hk=>?_,λb hb hk=>?_,λb hb hk=>?_,λg hg=>?_⟩
 .have:=J b hb;unfold gD at this;rcases hk with hk|hk<;>simp[fL,hk,Int.reduceEq,if_false,if_true,aJ,decide_eq_true_eq] at this<;>exact⟨λr hr=>vg this.1.2.2.1 r hr,by have:=this.1.2.1;omega⟩
 .have:=J b hb;unfold gD at this;simp[fL,hk,Int.reduceEq,if_false,if_true,aJ,decide_eq_true_eq,Bool.or_eq_true,jn] at this;rcases this.1.2.2.2.1 with h1|h1
  .omega
  .exact(nE h1).2
 .have:=J b hb;unfold gD at this;simp[fL,hk,Int.reduceEq,if_false,if_true,aJ,decide_eq_true_eq] at this;exact nE this.1.2.1
 .have:=checked (h g hg);unfold iX od at this;simp[aJ] at this;have:=kC.1 this.1.2.1;split at this<;>omega
structure lF(l:List az):Prop where
 len:l.length<=60
 sd:∀ f∈l,eF f=0
 BL:∀ i,i+1<l.length->Op.bytesLess (qm l i).toList (qm l (i+1)).toList=true
 calls:∀ f∈l,tU f l=true
def FQ{l:List az}(h:(dK l).2=0):lF l:=by
 unfold dK at h;split at h
 .cases h
 .rename_i J;split at h
  .rename_i i hi;have:=find?_some hi;simp only[bne_iff_ne,ne_eq] at this;exact absurd h this
  .rename_i hn;split at h
   .cases h
   .rename_i hc;rw[find?_eq_none] at hn hc
    have h1:∀ i,i<l.length->iQ l i=0:=λi hi=>by
     have:=hn i (mem_range.2 hi);simpa using this
    have C:∀ f∈l,eF f=0:=λf hf=>by
     let⟨i,hi⟩:=cV hf;have:=h1 i (bQ.1 hi).1;rw[iQ,hi] at this;simp only at this;split at this
     .assumption
     .exact this
    refine⟨oG,C,λi hi=>?_,λf hf=>?_⟩
    .have:=h1 (i+1) hi;let⟨f,hf⟩:=o3 l (i+1) hi
     rw[iQ,hf] at this;simp only[C f (bD hf),if_true] at this;have e:qm l (i+1)=f.name:=by rw[qm,hf]
     rw[e];cases hs:AD (qm l i) f.name with
     |false=>unfold AD at hs;simpa using hs
     |true=>
      rw[show i+1 - 1=i by omega,hs] at this;simp at this
    .let⟨i,hi⟩:=cV hf;have:=hc i (mem_range.2 (bQ.1 hi).1);rw[sA,hi] at this;simpa using this
def ZY:∀ a:List UInt8,Op.bytesLess a a=false
 |[]=>rfl
 |x::a=>by
  have:=ZY a;unfold Op.bytesLess;simp[this]
def XP:∀ {a b c:List UInt8},Op.bytesLess a b=true->Op.bytesLess b c=true->Op.bytesLess a c=true
 |[],[],_,h,_=>by simp[Op.bytesLess] at h
 |_::_,[],_,h,_=>by simp[Op.bytesLess] at h
 |_,_::_,[],_,h=>by simp[Op.bytesLess] at h
 |[],_::_,_::_,_,_=>by simp[Op.bytesLess]
 |x::a,y::b,z::c,h1,h2=>by
  simp[Op.bytesLess,Bool.or_eq_true,aJ,decide_eq_true_eq,beq_iff_eq] at h1 h2 ⊢;rcases h1 with h1|⟨rfl,h1⟩
  .rcases h2 with h2|⟨rfl,h2⟩
   .exact .inl (UInt8.lt_trans h1 h2)
   .exact .inl h1
  .rcases h2 with h2|⟨rfl,h2⟩
   .exact .inl h2
   .exact .inr ⟨rfl,XP h1 h2⟩
section
variable{κ:Type}[DecidableEq κ]
def ZZ{fs:List κ}{k:κ}:hZ fs k=true↔k∈fs:=by rw[hZ,decide_eq_true_eq]
def amP{fs:List κ}{k:κ}:hZ fs k=false↔k∉fs:=by rw[hZ,decide_eq_false_iff_not]
def ac4{fs:List κ}{k:κ}(h:hZ fs k=true):mH fs k<fs.length:=idxOf_lt_length_of_mem (ZZ.1 h)
def amN{fs:List κ}{k:κ}(h:hZ fs k=true):fs[mH fs k]? =some k:=by
 have h1:=ac4 h;rw[aO h1];exact congrArg some (getElem_idxOf h1)
end
abbrev lV(l:List az):List ByteArray:=l.map (·.name)
variable{i:Nat}
def WN(h:l[i]? =some f):qm l i=f.name:=by rw[qm,h]
def lF.less(h:lF l):∀ {i j:Nat},i<j->j<l.length->Op.bytesLess (qm l i).toList (qm l j).toList=true
 |i,0,ma,_=>absurd ma (Nat.not_lt_zero i)
 |i,j+1,ma,hj=>by
  have h1:=h.BL j hj;by_cases e:i=j
  .subst e;exact h1
  .exact XP (h.less (show i<j by omega) oG) h1
def lF.nodup(h:lF l):(lV l).Nodup:=by
 rw[nodup_iff_pairwise_ne,pairwise_iff_getElem];intro i j hi hj M e;have J:i<l.length:=o2 hi
 have C:j<l.length:=o2 hj
 have h1:=h.less M C;rw[WN (aO J),WN (aO C)] at h1;simp[getElem_map] at e;rw[e,ZY] at h1;cases h1
def lF.fresh(h:lF l){k:Nat}(hf:l[k]? =some f):hZ ((lV l).take k) f.name=false:=by
 rw[amP];intro hm;let⟨i,hi⟩:=cV hm;have C:i<k:=by have:=(bQ.1 hi).1;simp at this;omega
 rw[getElem?_take,ba C] at hi;have hk:(lV l)[k]? =some f.name:=by simp[hf]
 have:=(getElem?_inj (bQ.1 hi).1 h.nodup).1 (hi.trans hk.symm);omega
def eN(l:List az)(s:ByteArray):Nat:=if hZ (lV l) s then mH (lV l) s else 0
def bC(l:List az):List (List Nat):=l.map λf=>(cU f.blocks).map (eN l)
def dL(l:List az):List ByteArray:=l.map tW
def dS(l:List az):List Nat:=bT (dL l)
@[simp] theorem Z0 (l : List az) : (bC l).length = l.length := by simp [bC]
@[simp] theorem azr (l : List az) : (dS l).length = l.length := by simp [dS, dL]
def lF.known(h:lF l)(hf:f∈l){s:ByteArray}(hs:s∈cU f.blocks):hZ (lV l) s=true:=by
 unfold cU at hs;obtain⟨b,hb,rfl⟩:=mem_map.1 hs;rw[mem_filter] at hb;have hc:=bK.1 (h.calls f hf) b hb.1;have hk:=hb.2;unfold iq at hk;simp[Bool.or_eq_true,decide_eq_true_eq] at hk
 have C:∃ g,findF l b.fin.name=some g:=by
  unfold kY at hc;rcases hk with hk|hk
  .rw[ba hk] at hc;unfold An at hc;split at hc
   .cases hc
   .rename_i g hg;exact⟨g,hg⟩
  .rw[ai oG,ba hk] at hc;unfold Ao at hc;split at hc
   .cases hc
   .rename_i g hg;exact⟨g,hg⟩
 let⟨g,hg⟩:=C;have h1:=mem_of_find?_eq_some hg;have h2:=find?_some hg
 have:g.name=b.fin.name:=by
  simp[beq_iff_eq] at h2;rw[ym,ym] at h2;exact Ab h2
 rw[ZZ, <- this];exact mem_map_of_mem h1
def Sx{s:ByteArray}(h:hZ (lV l) s=true):eN l s<l.length:=by
 rw[eN,ba h];have:=ac4 h;simpa using this
def Ly(h:l[i]? =some f):(bC l).getD i []=(cU f.blocks).map (eN l):=getD_some (by simp[bC,h])
def lF.B6(h:lF l):JD (bC l):=λi t ht=>by
 cases hf:l[i]? with
 |none=>
  have:(bC l)[i]? =none:=by simp[bC,hf]
  rw[dU,this] at ht;cases ht
 |some f=>
  rw[Ly hf] at ht;obtain⟨s,hs,rfl⟩:=mem_map.1 ht;rw[Z0];exact Sx (h.known (bD hf) hs)
def lF.Ny(h:lF l):adw (dS l) (bC l):=λa b ha hb e=>by
 rw[Z0] at ha hb;obtain⟨f,hf⟩:∃ f,l[a]? =some f:=⟨_,aO ha⟩
 obtain⟨g,hg⟩:∃ g,l[b]? =some g:=⟨_,aO hb⟩
 rw[Ly hf,Ly hg,length_map,length_map];have h1:(dL l)[a]? =some (tW f):=by simp[dL,hf]
 have h2:(dL l)[b]? =some (tW g):=by simp[dL,hg]
 refine ahn (h.sd f (bD hf)) (h.sd g (bD hg)) ((Lw h1 h2).1 ?_);have C:(dS l)[a]? =some ((dS l).getD a 0):=fx (by simpa using ha);have e2:(dS l)[b]? =some ((dS l).getD b 0):=fx (by simpa using hb);unfold dS at C e2 e;rw[C,e2,e]
end
section
def Gi(l:List az):List D:=if(dK l).2=0 then jq l (dL l) ((bC l).map a7) else [.z,.z,.z]
def alJ(l:List az):∀ a∈Gi l,Tr a:=by
 unfold Gi;split
 .exact Q6 _ _ _
 .exact .cons .z (.cons .z (.cons .z .nil))
def Q8{l:List az}(h:(dK l).2=0):Gi l=jq l (dL l) ((bC l).map a7):=ba h
def Qv{l:List az}(h:(dK l).2≠0):Gi l=[.z,.z,.z]:=ai h
def alK{s:ByteArray}{fs:List ByteArray}{k:Nat}(hk:fs.length=k)(h:hZ fs s=false):mG (.string s) (I (k:Nat)) (ia fs)=ia (fs++[s]):=by
 subst hk;exact aaF h
structure OB(m:Mem)(q nx:Nat)(l:List az)(x1 x2:D)(sh:List ByteArray)(ca:List (List Int)):Prop where
 r0:m 0=some (.cells [.z,.z,.z] 82)
 rq:m q=some (.cells [bS l,x1,x2] 82)
 lt:0<q/\q<nx
 gr:(sh=[]/\ca=[]/\x1=.z/\x2=.z)\/∃ r1 r2,r1≠r2/\q<r1/\r1<nx/\q<r2/\r2<nx/\x1=.rs r1 0 sh.length/\x2=.rs r2 0 ca.length/\m r1=some (.cells (sh.map S) 9)/\m r2=some (.cells (ca.map aU) 43)
variable{sh:List ByteArray}{ca:List (List Int)}
def OB.mono{m m':Mem}{q nx nx':Nat}{l:List az}{x1 x2:D}(h:OB m q nx l x1 x2 sh ca)(hm:∀ j,j<nx->m' j=m j)(hn:nx<=nx'):OB m' q nx' l x1 x2 sh ca:=by
 refine⟨by rw[hm 0 (by have:=h.lt;omega)];exact h.r0,by rw[hm q h.lt.2];exact h.rq,by have:=h.lt;omega,?_⟩;rcases h.gr with g|⟨r1,r2,C,J,M,O,U,X,g7,g8,g9⟩
 .exact .inl g
 .exact .inr ⟨r1,r2,C,J,oG,O,oG,X,g7,by rw[hm r1 M,g8],by rw[hm r2 U,g9]⟩
variable{X:Nat->Prop}
def anJ(l:List ByteArray):∀ d∈l.map S,jG X d:=λd hd=>by
 obtain⟨s,_,rfl⟩:=mem_map.1 hd;exact .s _
def XD(l:List (List Int)):∀ d∈l.map aU,jG X d:=λd hd=>by
 obtain⟨s,_,rfl⟩:=mem_map.1 hd;exact .sl _ _
def OB.Ho{m:Mem}{q nx nx' i sz:Nat}{l:List az}{x1 x2:D}{cs:List D}(h:OB m q nx l x1 x2 sh ca)(hi:nx<=i)(hn:nx<=nx'):OB (nU i cs sz m) q nx' l x1 x2 sh ca:=by
 have hz:∀ d∈[D.z,.z,.z],jG (λk=>k=i) d:=λd hd=>by
  simp[mem_cons,not_mem_nil,or_false,or_self] at hd;subst hd;exact .z
 refine⟨vw h.r0 (by have:=h.lt;omega) (.cells hz),?_,by have:=h.lt;omega,?_⟩
 .refine vw h.rq (by have:=h.lt;omega) (.cells λd hd=>?_);simp[mem_cons,not_mem_nil,or_false] at hd;rcases h.gr with⟨_,_,C,J⟩|⟨r1,r2,C,J,g3,U,g5,M,O,X,g9⟩
  .subst C J;rcases hd with rfl|rfl|rfl
   .exact .sl _ _
   .exact .z
   .exact .z
  .subst M O;rcases hd with rfl|rfl|rfl
   .exact .sl _ _
   .exact .rs oG
   .exact .rs oG
 .rcases h.gr with g|⟨r1,r2,C,J,g3,U,g5,M,O,X,g9⟩
  .exact .inl g
  .exact .inr ⟨r1,r2,C,J,oG,U,oG,M,O,vw X oG (.cells (anJ _)),vw g9 oG (.cells (XD _))⟩
end
def VF{f:az}(h:eF f=0):aH prog 67 [.agg (aL f)] (S (tW f)):=by
 have hb:=Fx (Go.Abs.checked h)
 have VC:aH prog 57 [.agg (aL f),S AU,.fn (.func 112) [] []] (.agg (aL (o7 f))):=VC (to:=λ_=>AU) (.fn oS oS) (λX i cs sz _=>rfl) (λb _ _=>au6) (by have:=hb.aj;omega) (by have:=hb.a6;omega) (by have:=hb.sigs;omega) (by have:=hb.mh;omega) λb C=>by
  have h1:=hb.cn b C;have h2:=h1.len;have J:=h1.fin.len;have M:=h1.fin.aK;have O:=h1.fin.ins.len;exact⟨oG,λx hx=>by have:=(h1.ins x hx).len;omega,oG,oG,oG⟩
 have NW:=NW (f:=o7 f) λ_=>aoY (Q9 h);rw[P6 h,ba rfl] at NW;refine bx (fo f67) (.cons (.agg (gS f)) .nil) (Tr.s _) ?_;refine aA (ag ?_);refine af (br (cH [(0,aL f,48)] eH (l:=[(1,.pt (aL f))]) eH) (al ?_));refine aQ ?_;refine aI (wE (v:=.s (.string _)) rfl rfl) ak (by first|decide|simp) (ax ?_);refine er (ag ?_);exact af (aC rfl rfl)
def alL(s:ByteArray)(fs:List ByteArray):lg prog 144 false (fF (.string s) (ia fs))=I (if hZ fs s then(mH fs s:Nat) else 0:Nat):=by
 rw[Q7];cases hZ fs s with
 |true=>rfl
 |false=>
  show rF prog (qL prog 144)=_;rw[ac1];rfl
def tD{l:List az}(hl:l.length<=1000):aH prog 43 [bS l] (.bu [.agg (Gi l),I (dK l).2]):=by
 have OW:=OW (l:=l) (λh f hf=>aaG oG h hf) oG;refine bx (fo f43) (.cons (kV l) .nil) (.bu (.cons (.agg (alJ l)) db)) ?_;refine ws (ag ?_);refine af (aG (al (ek ?_)));refine af (aG (al (ag ?_)));have O:=FQ (l:=l);have On:=Q8 (l:=l);have U:=Qv (l:=l);generalize (dK l).2=err at*
 generalize Gi l=oD at*
 refine af (cM rfl (λh=>aG (al ?_)) λh=>cI (al ?_))
 .have h:err≠0:=o2 h
  rw[U h];refine aQ ?_;exact af (de (Bb (kz rfl rfl VG VH rfl t82 (bY 3)) rfl rfl))
 have h:err=0:=o2 h
 subst h;have hL:=O rfl;rw[On rfl];clear On U O OW;refine ag ?_;refine af (aG (aA (ax ?_)))
 refine af (cw (λs=>∃ nx,0<nx/\aP prog s ⟨aD [(0,bS l),(2,.rp 0 0),(6,.im (ia (lV l)))],bA [(0,.cells [.z,.z,.z] 82)],nx⟩) (eB (α:=Nat×Nat)
  (λs=>⟨aD [(0,bS l),(2,.rp 0 0),(6,.mp 1),(25,bS l),(26,I l.length),(27,I s.1)],bA [(0,.cells [.z,.z,.z] 82),(1,.map (ia ((lV l).take s.1)))],s.2⟩)
  (λs=>s.1<=l.length/\1<s.2) (λs=>l.length - s.1) (0,_) (bp eH eH) ⟨Nat.zero_le _,oM⟩ ?_) ?_)
 .rintro⟨k,nx⟩ ⟨hk,dA⟩;dsimp only at hk dA ⊢;refine SS ?_;refine af ⟨_,rfl,λh=>?_,λh=>?_⟩
  .have ao:k<l.length:=o2 h
   clear h;let⟨f,hf⟩:=o3 l k ao
   have U':=hL.fresh hf;have eV:(lV l).take (k+1)=(lV l).take k++[f.name]:=by rw[take_add_one,getElem?_map,hf];rfl
   have nv:((lV l).take k).length=k:=by simp;omega
   generalize (lV l).take k=fs at*
   refine ws (cz ?_);refine af (gj ?_);have aF:∀ {a b},up (up (bA [(0,.cells [.z,.z,.z] 82),(1,.map (ia fs))]) nx a) nx b nx=b:=aw _ _ _;have aqN:∀ {a b},up (up (bA [(0,.cells [.z,.z,.z] 82),(1,.map (ia fs))]) nx a) nx b 1=some (.map (ia fs)):=ay oG (ay oG rfl);have kd:(aL f).drop (0+0)=S f.name::(aL f).drop 1:=rfl;refine aQ ?_;apply dH (IE (key:=.string f.name) (v:=I (k:Nat)) rfl aqN rfl rfl I7) aM ⟨I8,I6 _,Nw fs⟩;rw[alK nv U'];refine af (ag ?_);refine af (aW (k+1,nx+1) ?_ ⟨oM,oM⟩ oM);dsimp only;rw[eV];exact bp eH ⟨ay oG (ay oG (ay oG rfl)),aw _ _ _,aa⟩
  .have bt:¬ k<l.length:=o2 h
   have:k=l.length:=by omega
   subst this;rw[cX oS];exact⟨nx,oG,(aP.LJ _ _ _ 1 (ia (lV l)) rfl).trans (bp eH eH)⟩
 .rintro s ⟨q,VJ,M⟩;refine⟨_,M,al ?_⟩;clear M;refine aQ ?_;refine af (aG (aA (ax ?_)));have lx:(dL l).length=l.length:=by simp[dL]
  have dB:((bC l).map a7).length=l.length:=by simp
  refine af (cw (λs=>∃ x1 x2 m nx,OB m q nx l x1 x2 (dL l) ((bC l).map a7)/\aP prog s ⟨aD [(2,.rp 0 0),(9,.rp q 0)],m,nx⟩) (eB (α:=Nat×D×D×Mem×Nat)
   (λs=>⟨aD [(2,.rp 0 0),(6,.im (ia (lV l))),(9,.rp q 0),(39,bS l),(40,I l.length),(41,I s.1)],s.2.2.2.1,s.2.2.2.2⟩)
   (λs=>s.1<=l.length/\OB s.2.2.2.1 q s.2.2.2.2 l s.2.1 s.2.2.1 ((dL l).take s.1) (((bC l).map a7).take s.1)) (λs=>l.length - s.1) (0,.z,.z,_,_)
   (au eH) ⟨Nat.zero_le _,⟨ay oG (ay oG rfl),aw _ _ _,⟨VJ,oM⟩,.inl ⟨rfl,rfl,rfl,rfl⟩⟩⟩ ?_) ?_)
  .rintro⟨k,x1,x2,m,nx⟩ ⟨hk,C⟩;dsimp only at hk C ⊢;refine SS ?_;refine af ⟨_,rfl,λh=>?_,λh=>?_⟩
   .have ao:k<l.length:=o2 h
    clear h;let⟨f,hf⟩:=o3 l k ao
    have qb:=bD hf;have mf:=hL.sd f qb;have Qs:=Fx (Go.Abs.checked mf);have Vw:=Vw (f:=f) (by have:=Qs.mh;omega);have VF:=VF mf;have Em:(cU f.blocks).length<=100000:=by have:=zL f.blocks;have:=Qs.mh;omega
    have mb:(dL l).take (k+1)=(dL l).take k++[tW f]:=by
     have:(dL l)[k]? =some (tW f):=by simp[dL,hf]
     rw[take_add_one,this];rfl
    have O3:((bC l).map a7).take (k+1)=((bC l).map a7).take k++[a7 ((cU f.blocks).map (eN l))]:=by
     have:((bC l).map a7)[k]? =some (a7 ((cU f.blocks).map (eN l))):=by simp[bC,hf]
     rw[take_add_one,this];rfl
    have VK:((dL l).take k).length=k:=by rw[length_take];omega
    have hlc:(((bC l).map a7).take k).length=k:=by rw[length_take];omega
    generalize (dL l).take k=sh at*
    generalize ((bC l).map a7).take k=ca at*
    generalize cU f.blocks=cs at*
    generalize tW f=gP at*
    have azH:=C.lt;refine ws (aQ ?_);refine af (aA (SS ?_));refine af ⟨_,.oY _ _ _ 12 3 rfl,aG (aA ?_)⟩;have aF:∀ {a b c},up (up (up m nx a) nx b) (nx+1) c nx=b:=ay oG l3;refine ag ?_;refine ag ?_
    refine af (cw (λs=>∃ m' nx',OB m' q nx l x1 x2 sh ca/\m' nx=some (.cells (aL f) 48)/\nx+1<=nx'/\aP prog s ⟨aD [(2,.rp 0 0),(6,.im (ia (lV l))),(9,.rp q 0),(11,.rp nx 0),(12,aU (a7 (cs.map (eN l)))),(39,bS l),(40,I l.length),(41,I k)],m',nx'⟩) (eB (α:=Nat×Nat×Mem×Nat)
     (λs=>⟨aD [(2,.rp 0 0),(6,.im (ia (lV l))),(9,.rp q 0),(11,.rp nx 0),(12,.rs s.2.1 0 s.1),(39,bS l),(40,I l.length),(41,I k),(46,fT cs),(47,I cs.length),(48,I s.1)],s.2.2.1,s.2.2.2⟩)
     (λs=>s.1<=cs.length/\OB s.2.2.1 q nx l x1 x2 sh ca/\s.2.2.1 nx=some (.cells (aL f) 48)/\nx<s.2.1/\s.2.1<s.2.2.2/\s.2.2.1 s.2.1=some (.cells ((a7 ((cs.take s.1).map (eN l))).map I) 3)) (λs=>cs.length - s.1) (0,nx+1,_,_)
     (au eH) ⟨Nat.zero_le _,C.mono (λj hj=>(aV _ _ oG).trans ((aV _ _ oG).trans (aV _ _ oG))) (bY _),aF,oM,oM,aw _ _ _⟩ ?_) ?_)
    .rintro⟨j,r,m',nx'⟩ ⟨hj,J,xQ,qW,AV,p8⟩;dsimp only at hj J xQ qW AV p8 ⊢;refine SS ?_;refine af ⟨_,rfl,λh=>?_,λh=>?_⟩
     .have cW:j<cs.length:=o2 h
      clear h;let⟨y,hy⟩:=o3 cs j cW
      have htj:a7 ((cs.take (j+1)).map (eN l))=a7 ((cs.take j).map (eN l))++[((eN l y:Nat):Int)]:=by rw[take_add_one,hy];simp[a7]
      have tC:(a7 ((cs.take j).map (eN l))).length=j:=by simp;omega
      generalize a7 ((cs.take j).map (eN l))=out at*
      have aF:=p8;have jj:(out.map I).length=j:=o2 tC
      refine ws (ax ?_);refine af (gj (ax ?_));refine aI (HR rfl rfl I7 (alL y (lV l))) aM ⟨I8,I6 y,Nw _⟩ (ax ?_);refine af (ag ?_);refine af (aW (j+1,nx'+1,_,nx'+1+1) (au eH) ?_ oM);dsimp only;refine⟨oG,J.mono (λi hi=>(aV _ _ oG).trans ((aV _ _ oG).trans (aV _ _ oG))) (bY _),(aV _ _ oG).trans ((aV _ _ oG).trans ((aV _ _ oG).trans (xQ))),oG,oG,l3.trans ?_⟩;rw[htj];simp;rfl
     .have bt:¬ j<cs.length:=o2 h
      have:j=cs.length:=by omega
      subst this;rw[take_length] at p8;refine⟨nU r _ (prog.cellsOf 3) m',nx',J.Ho oG (bY _),vw xQ oG (.cells λd hd=>?_),oG,E' p8 ⟨lz oG,rfl,lz oG,lz oG,?_,rfl,rfl,rfl,aa⟩⟩
      .rw[<- append_nil (aL f)] at hd;simp[aL,append_nil,mem_cons,not_mem_nil,or_false] at hd;rcases hd with rfl|rfl|rfl|rfl|rfl|rfl|rfl|rfl<;>first|exact .s _|exact .sl _ _
      .show sub (dq r _ (prog.cellsOf 3)) (.rs r 0 cs.length)=_;rw[w8,c3,drop_zero,cX oS];simp
    .rintro s ⟨m',nx',J,xQ,AJ,M⟩;refine⟨_,M,?_⟩;clear M;apply Bp (fp [(0,3),(1,3),(3,6),(4,6),(5,6),(3,7),(4,7),(5,7),(9,11),(10,11)]);have aF:=J.rq;have kd:[bS l,x1,x2].drop (0+1)=x1::[x2]:=rfl;have kd2:[bS l,x1,x2].drop (0+2)=x2::[]:=rfl;refine ag ?_;have aF:=xQ;refine ax ?_;rcases J.gr with⟨h1,h2,rfl,rfl⟩|⟨r1,r2,g1,g2,g3,g4,g5,rfl,rfl,g8,g9⟩
     .apply di (kX rfl rfl V.h V.h (fZ l3 rfl)) ak ⟨V.h,cd,oC,cD,(by rw[b9];first|omega|(simp;omega))⟩;have aF:∀ {a b},up (up m' nx' a) (nx'+1) b q=some (.cells [bS l,.z,.z] 82):=ay oG (ay oG J.rq);have kd:=kd2;refine aQ ?_;apply di (kX rfl rfl V.h V.h (fZ l3 rfl)) ak ⟨V.h,cd,oC,cD,(by rw[Ez];first|omega|(simp;omega))⟩;have aF:∀ {a b c d},up (up (up (up m' nx' a) (nx'+1) b) (nx'+1+1) c) (nx'+1+1+1) d q=some (.cells [bS l,.z,.z] 82):=ay oG (ay oG (ay oG (ay oG J.rq)));refine ag ?_;have aF:∀ {a b c d e},up (up (up (up (up m' nx' a) (nx'+1) b) (nx'+1+1) c) (nx'+1+1+1) d) q e q=e:=aw _ _ _;refine ag ?_;refine bJ (by simp[sM];omega) (ag ?_);refine af (aW (k+1,.rs (nx'+1) 0 1,.rs (nx'+1+1+1) 0 1,_,nx'+1+1+1+1) (au eH) ?_ oM);dsimp only;subst h1 h2;have zw:k=0:=o2 VK.symm
      subst zw;refine⟨oG,(aV _ _ oG).trans ((aV _ _ oG).trans ((aV _ _ oG).trans ((aV _ _ oG).trans ((aV _ _ oG).trans ((aV _ _ oG).trans (J.r0)))))),aw _ _ _,⟨VJ,oG⟩,.inr ⟨nx'+1,nx'+1+1+1,oG,oG,oG,oG,oG,?_,?_,(aV _ _ oG).trans ((aV _ _ oG).trans ((aV _ _ oG).trans ((aV _ _ oG).trans (l3.trans ?_)))),(aV _ _ oG).trans ((aV _ _ oG).trans (l3.trans ?_))⟩⟩
      .rw[mb];rfl
      .rw[O3];rfl
      .rw[mb];rfl
      .rw[O3];rfl
     .have Gj:∀ {a},up m' nx' a r1=some (.cells (sh.map S) 9):=ay oG g8;apply eT (eQ rfl Gj rfl uP c9 (fZ l3 rfl) rfl) aM ⟨DT,rfl,bL rfl,oC,oS,by unfold maxLen;omega,by rw[b9];omega,by simp;omega⟩;have aF:∀ {a b c},up (up (up m' nx' a) r1 b) (nx'+1) c q=some (.cells [bS l,.rs r1 0 sh.length,.rs r2 0 ca.length] 82):=ay oG (ay oG (ay oG J.rq));have kd:=kd2;refine aQ ?_;have fJ:∀ {a b c d},up (up (up (up m' nx' a) r1 b) (nx'+1) c) (nx'+1+1) d r2=some (.cells (ca.map aU) 43):=ay oG (ay oG (ay oG (ay oG g9)));apply eT (eQ rfl fJ rfl e23 ly (fZ l3 rfl) rfl) aM ⟨aeb,rfl,bL rfl,oC,oS,by unfold maxLen;omega,by rw[Ez];omega,by simp;omega⟩;have aF:∀ {a b c d e f'},up (up (up (up (up (up m' nx' a) r1 b) (nx'+1) c) (nx'+1+1) d) r2 e) (nx'+1+1+1) f' q=some (.cells [bS l,.rs r1 0 sh.length,.rs r2 0 ca.length] 82):=ay oG (ay oG (ay oG (ay oG (ay oG (ay oG J.rq)))));refine ag ?_;have aF:∀ {a b c d e f' g},up (up (up (up (up (up (up m' nx' a) r1 b) (nx'+1) c) (nx'+1+1) d) r2 e) (nx'+1+1+1) f') q g q=g:=aw _ _ _;refine ag ?_;refine bJ (by simp[sM];omega) (ag ?_);refine af (aW (k+1,.rs (nx'+1) 0 (sh.length+1),.rs (nx'+1+1+1) 0 (ca.length+1),_,nx'+1+1+1+1) (au eH) ?_ oM);dsimp only;refine⟨oG,(aV _ _ oG).trans ((aV _ _ oG).trans ((aV _ _ oG).trans ((aV _ _ oG).trans ((aV _ _ oG).trans ((aV _ _ oG).trans ((aV _ _ oG).trans ((aV _ _ oG).trans (J.r0)))))))),aw _ _ _,⟨VJ,oG⟩,.inr ⟨nx'+1,nx'+1+1+1,oG,oG,oG,oG,oG,?_,?_,(aV _ _ oG).trans ((aV _ _ oG).trans ((aV _ _ oG).trans ((aV _ _ oG).trans ((aV _ _ oG).trans (l3.trans ?_))))),(aV _ _ oG).trans ((aV _ _ oG).trans (l3.trans ?_))⟩⟩
      .rw[mb,length_append];rfl
      .rw[O3,length_append];rfl
      .rw[mb,map_append];simp;rfl
      .rw[O3,map_append];rfl
   .have bt:¬ k<l.length:=o2 h
    have:k=l.length:=by omega
    subst this;rw[cX oG,cX oG] at C;exact⟨x1,x2,m,nx,C,au eH⟩
  .rintro s ⟨x1,x2,m,nx,C,M⟩;have ao:=C.lt
   have ED:∃ m2 iK,aP prog s ⟨aD [(2,.rp 0 0),(9,.rp q 0)],m2,iK⟩/\m2 0=some (.cells [.z,.z,.z] 82)/\m2 q=some (.cells (jq l (dL l) ((bC l).map a7)) 82):=by
    rcases C.gr with⟨h1,h2,rfl,rfl⟩|⟨r1,r2,g1,g2,g3,g4,g5,rfl,rfl,g8,g9⟩
    .rw[h1,h2];refine⟨up m q (some (.cells (jq l [] []) 82)),nx,M.trans (aP.xq _ _ _ _ _ (λt=>zT _) λi=>?_),(aV _ _ oG).trans C.r0,aw _ _ _⟩;by_cases hi:i=q
     .subst hi;refine .inr ⟨_,jq l [] [],82,C.rq,aw _ _ _,rfl,λk d d' hd jg=>?_⟩
      match k with
      |0=>cases (show some d=some d' from hd.symm.trans jg);exact zT _
      |1|2=>
       simp[jq,getElem?_cons_succ,getElem?_cons_zero,bg] at hd jg;subst hd jg;exact DV
      |k+3=>simp at hd
     .exact .inl (aV _ _ hi)
    .have hz:∀ X,∀ d∈[D.z,.z,.z],jG X d:=λX d hd=>by
      simp[mem_cons,not_mem_nil,or_false,or_self] at hd;subst hd;exact .z
     have e1:nU r1 ((dL l).map S) (prog.cellsOf 9) m r2=some (.cells (((bC l).map a7).map aU) 43):=vw g9 oG (.cells (XD _))
     have e2:nU r1 ((dL l).map S) (prog.cellsOf 9) m q=some (.cells [bS l,fT (dL l),.rs r2 0 ((bC l).map a7).length] 82):=by
      rw[nU,ai oG,C.rq];show some (Row.cells [bS l,sub (dq r1 ((dL l).map S) (prog.cellsOf 9)) (.rs r1 0 (dL l).length),sub (dq r1 ((dL l).map S) (prog.cellsOf 9)) (.rs r2 0 ((bC l).map a7).length)] 82)=_;rw[w8,yp oG,c9,drop_zero,cX oS]
     refine⟨nU r2 _ (prog.cellsOf 43) (nU r1 _ (prog.cellsOf 9) m),nx,M.trans ((E' (l:=[(2,.rp 0 0),(9,.rp q 0)]) g8 ⟨lz oG,lz oG,aa⟩).trans (E' e1 ⟨lz oG,lz oG,aa⟩)),vw (vw C.r0 oG (.cells (hz _))) oG (.cells (hz _)),?_⟩;generalize nU r1 ((dL l).map S) (prog.cellsOf 9) m=m1 at*
     rw[nU,ai oG,e2];show some (Row.cells [bS l,fT (dL l),sub (dq r2 (((bC l).map a7).map aU) (prog.cellsOf 43)) (.rs r2 0 ((bC l).map a7).length)] 82)=_;rw[w8,ly,drop_zero,cX oS];rfl
   let⟨m2,iK,Cx,q1,q2⟩:=ED;refine⟨_,Cx,al ?_⟩;clear Cx M;have aF:=q2;apply aI (gA rfl aF V.h V.h rfl) ak (gB V.h V.h cg);have aF:=q1;refine dH (jV rfl rfl aF rfl) ak (eO V.h V.h bi (by rfl)) (SS ?_);exact af (Bb (kz (cs:=jq l (dL l) ((bC l).map a7)) (vs:=jq l (dL l) ((bC l).map a7)) rfl rfl VG VH rfl t82 (bY 3)) rfl rfl)
section
variable{P:Program}{Y:iu}{rf:Bool}{Q:Exit->St->Prop}{st:St}{id jz:Nat}{body:Code}{α:Type}
def ajJ[fG Y](S:α->St)(J:α->Prop)(μ:α->Nat)(C:α)(hg:aP P st (S C))(M:J C)(h:∀ x,J x->AW P Y rf body (o6 jz id (Dx P S J μ x) Q) (S x)):
 ∃ st',aP P st st'/\AW P Y rf (.block id (.loop (.block jz body))) Q st':=
 Ij (Q:=kf id Q) S J μ C hg M (λx hx=>Y6 (h x hx)) (a:=.skip) λ_ h=>h
def Dm{k i:Nat}{r:Row}{l:List (Nat×Row)}(h:i≠k):bA ((k,r)::l) i=bA l i:=ai h
def EB{k:Nat}{r:Row}{l:List (Nat×Row)}:bA ((k,r)::l) k=some r:=ba rfl
def aiy{l:Nat}(h:∃ st',aP P st st'/\AW P Y rf body Q st'):AW P Y rf (.seq (.label l) body) Q st:=h
end
section
variable{κ ι:Type}[DecidableEq κ][DecidableEq ι]
def al8{g:κ->ι}:∀ {fs:List κ} {k:κ},(∀ a∈fs,g a=g k->a=k)->hZ (fs.map g) (g k)=hZ fs k
 |[],k,_=>rfl
 |a::fs,k,h=>by
  rw[map_cons,Qt,Qt,al8 λb hb=>h b (mem_cons_of_mem _ hb)];congr 1;exact decide_eq_decide.2 ⟨h a oS,λe=>by rw[e]⟩
def aee{g:κ->ι}:∀ {fs:List κ} {k:κ},(∀ a∈fs,g a=g k->a=k)->mH (fs.map g) (g k)=mH fs k
 |[],k,_=>rfl
 |a::fs,k,h=>by
  rw[map_cons,Qu,Qu,aee λb hb=>h b (mem_cons_of_mem _ hb)];by_cases e:a=k
  .rw[ba e,ba (by rw[e])]
  .rw[ai e,ai λC=>e (h a oS C)]
def aef{g:κ->ι}{ks:List κ}(h:∀ a∈ks,∀ b∈ks,g a=g b->a=b):cm (ks.map g)=(cm ks).map g:=by
 have key:∀ (ks acc:List κ),(∀ a∈acc++ks,∀ b∈acc++ks,g a=g b->a=b)->qt (acc.map g) (ks.map g)=(qt acc ks).map g:=λks=>by
  induction ks with
  |nil=>intro acc _;rfl
  |cons k ks ih=>
   intro acc h;simp only[map_cons,qt]
   have e:g k∈acc.map g↔k∈acc:=by
    constructor
    .intro hm;let⟨a,ha,e⟩:=mem_map.1 hm;rw[<- h a (by simp[ha]) k oS e];exact ha
    .exact λhm=>mem_map_of_mem hm
   by_cases hk:k∈acc
   .rw[ba hk,ba (e.2 hk)];exact ih acc λa ha b hb=>h a (by simp at ha ⊢;rcases ha with ha|ha<;>simp[ha]) b (by simp at hb ⊢;rcases hb with hb|hb<;>simp[hb])
   .rw[ai hk,ai λhm=>hk (e.1 hm)];have:=ih (acc++[k]) λa ha b hb=>h a (o2 ha) b (o2 hb)
    rwa[map_append] at this
 exact key ks [] (o2 h)
def al9{g:κ->ι}{ks:List κ}(h:∀ a∈ks,∀ b∈ks,g a=g b->a=b):bT (ks.map g)=bT ks:=by
 have C:∀ (l:List κ),bT l=l.map (mH (cm l)):=λl=>rfl;have e2:∀ (l:List ι),bT l=l.map (mH (cm l)):=λl=>rfl;rw[C,e2,aef h,map_map];exact map_congr_left λk hk=>aee λa ha=>h a (rm.1 ha) k hk
end
def amX:∀ {a b:List Nat},(∀ n∈a,n<90)->(∀ n∈b,n<90)->ll (a7 a)=ll (a7 b)->a=b:=λ{a b} ha hb h=>by
 have h1:bW (ll (a7 a))=bW (ll (a7 b)):=congrArg bW h
 have e:∀ l:List Nat,bW (ll (a7 l))=l.map λn=>UInt8.ofNat (n+33):=λl=>by
  simp only[ll,mkStr,a7,map_map,bW];refine map_congr_left λn _=>?_;show UInt8.ofNat ((n:Int)+33).toNat=_;congr 1
 rw[e,e] at h1;clear e h
 induction a generalizing b with
 |nil=>cases b with
  |nil=>rfl
  |cons y b=>simp at h1
 |cons x a ih=>cases b with
  |nil=>simp at h1
  |cons y b=>
   simp only[map_cons,cons.injEq] at h1;have hx:=ha x oS;have hy:=hb y oS;have:=congrArg UInt8.toNat h1.1;rw[UInt8.toNat_ofNat_of_lt' (by simp[UInt8.size];omega),UInt8.toNat_ofNat_of_lt' (by simp[UInt8.size];omega)] at this;rw[ih (λn hn=>ha n (mem_cons_of_mem _ hn)) (λn hn=>hb n (mem_cons_of_mem _ hn)) h1.2,show x=y by omega]
def sr(ca:List (List Nat))(clq:List Nat):List ByteArray:=(gU ca clq).map λk=>ll (a7 k)
def VB{ca:List (List Nat)}{clq:List Nat}(h:∀ c∈clq,c<90):∀ k∈gU ca clq,∀ n∈k,n<90:=λk hk n hn=>by
 have hd:∀ i,clq.getD i 0<90:=λi=>by
  rw[dU];cases he:clq[i]? with
  |none=>decide
  |some c=>exact h c (bD he)
 obtain⟨i,_,rfl⟩:=mem_map.1 hk;rcases mem_cons.1 hn with rfl|hn
 .exact hd i
 .obtain⟨t,_,rfl⟩:=mem_map.1 hn;exact hd t
def ajK{ca:List (List Nat)}{clq:List Nat}(h:∀ c∈clq,c<90):bT (sr ca clq)=bT (gU ca clq)/\(cm (sr ca clq)).length=(cm (gU ca clq)).length:=by
 have hi:∀ a∈gU ca clq,∀ b∈gU ca clq,ll (a7 a)=ll (a7 b)->a=b:=λa ha b hb e=>amX (VB h a ha) (VB h b hb) e;refine⟨al9 hi,?_⟩;rw[sr,aef hi,length_map]
def Zv{κ:Type}[DecidableEq κ]{ks:List κ}{n:Nat}(h:ks.length<=n):∀ c∈bT ks,c<n:=λc hc=>by
 let⟨i,hi⟩:=cV hc;have h1:=aer hi;have h2:=BI ks;omega
def Bd(l:List az)(sh:List ByteArray)(ca:List (List Int))(clq:List Int):List D:=[bS l,fT sh,cr ca,aU clq]
@[simp] theorem ay' (l : List az) (sh : List ByteArray) (ca : List (List Int)) (clq : List Int) : (Bd l sh ca clq).length = 4 := rfl
def YU(l:List az)(sh:List ByteArray)(ca:List (List Int))(clq:List Int):∀ a∈Bd l sh ca clq,Tr a:=.cons (kV l) (.cons (rA sh) (.cons (nC ca) (.cons (dP clq) .nil)))
def Qx{l:List az}{sh:List ByteArray}{ca:List (List Nat)}(h1:sh.length=l.length)(h2:ca.length=l.length)(fI:JD ca)(hn:l.length<=60)(hlen:∀ x∈ca,x.length<=10000):
 aH prog 44 [.agg (jq l sh (ca.map a7))] (.agg (Bd l sh (ca.map a7) (a7 (za (bT sh) ca)))):=by
 have avs:=O6 (ks:=sh) oG;refine bx (fo f44) (.cons (.agg (Q6 _ _ _)) .nil) (.agg (YU _ _ _ _)) ?_;refine aA (ag ?_);refine af ⟨_,mq (i:=0) (cs:=jq l sh (ca.map a7)) (e:=82) rfl (l:=[(1,.pt (jq l sh (ca.map a7))),(2,.rp 1 0)]) ⟨nh,rfl,aa⟩ (ml:=[(1,.cells [.z,.z,.z,.z] 86)]) eH,?_⟩;show AW _ _ _ _ (MH _) _;refine ws (ag ?_);refine wX avs rfl aM (bh ?_);refine af (aiy ?_);have lx:(bT sh).length=ca.length:=by rw[Fo];omega
 have hR:EG ca ((bT sh).length+1) (bT sh) (cm sh).length=za (bT sh) ca:=by rw[<- GG];rfl
 have h0s:=Zv (ks:=sh) (n:=90) oG;have h0m:=GG sh;have iM:=BI sh;generalize za (bT sh) ca=RR at*
 refine cw (λs=>∃ nx,1<nx/\aP prog s ⟨aD [(1,.pt (jq l sh (ca.map a7))),(2,.rp 1 0),(3,aU (a7 RR))],bA [(1,.cells [.z,.z,.z,.z] 86)],nx⟩) (ajJ (α:=List Nat×Nat×Nat)
  (λs=>⟨aD [(1,.pt (jq l sh (ca.map a7))),(2,.rp 1 0),(3,aU (a7 s.1)),(4,I (s.2.1:Nat))],bA [(1,.cells [.z,.z,.z,.z] 86)],s.2.2⟩)
  (λs=>s.1.length=ca.length/\s.2.1=(cm s.1).length/\(∀ c∈s.1,c<90)/\(∃ eY,ca.length<eY+s.2.1/\EG ca eY s.1 s.2.1=RR)/\1<s.2.2) (λs=>ca.length - s.2.1) (bT sh,(cm sh).length,_)
  (au eH) ⟨lx,h0m.symm,h0s,⟨_,oM,hR⟩,oM⟩ ?_) ?_
 .rintro⟨clq,many,nx⟩ ⟨dB,U,WS,⟨eY,hfu,M⟩,O⟩;dsimp only at dB U WS hfu M O ⊢;have Cv:=Cv (l:=l) (sh:=sh) (ca:=ca.map a7);have iD:(sr ca clq).length=l.length:=by simp[sr];omega
  have hle:many<=ca.length:=by have:=BI clq;omega
  refine aA (SS ?_);refine af ⟨_,.oY _ _ _ 5 9 rfl,aG (aA ?_)⟩;refine ag ?_;refine SS ?_
  refine af (cw (λs=>∃ nx,1<nx/\aP prog s ⟨aD [(1,.pt (jq l sh (ca.map a7))),(2,.rp 1 0),(3,aU (a7 clq)),(4,I many),(5,fT (sr ca clq))],bA [(1,.cells [.z,.z,.z,.z] 86)],nx⟩) (eB (α:=Nat×Nat×Nat)
   (λs=>⟨aD [(1,.pt (jq l sh (ca.map a7))),(2,.rp 1 0),(3,aU (a7 clq)),(4,I many),(5,.rs s.2.1 0 s.1),(19,I l.length),(20,I s.1)],bA [(1,.cells [.z,.z,.z,.z] 86),(s.2.1,.cells (((sr ca clq).take s.1).map S) 9)],s.2.2⟩)
   (λs=>s.1<=l.length/\1<s.2.1/\s.2.1<s.2.2) (λs=>l.length - s.1) (0,nx,nx+1)
   (bp eH ⟨ay oG rfl,aw _ _ _,aa⟩) ⟨Nat.zero_le _,O,oM⟩ ?_) ?_)
  .rintro⟨i,r,nx⟩ ⟨hi,qW,AV⟩;dsimp only at hi qW AV ⊢;refine SS ?_;refine af ⟨_,rfl,λh=>?_,λh=>?_⟩
   .have gh:i<l.length:=o2 h
    clear h;have O5:(a7 clq)[i]? =some ((clq.getD i 0:Nat):Int):=by rw[getElem?_map,fx (d:=0) (show i<clq.length by omega)];rfl
    have EA:(ca.map a7)[i]? =some (a7 (ca.getD i [])):=by rw[getElem?_map,fx (d:=[]) (show i<ca.length by omega)];rfl
    have jl:(ca.getD i []).length<=10000:=hlen _ (bD (fx (show i<ca.length by omega)))
    have eV:(sr ca clq).take (i+1)=(sr ca clq).take i++[ll (a7 (pQ ca clq i))]:=by
     have:(sr ca clq)[i]? =some (ll (a7 (pQ ca clq i))):=by
      rw[sr,getElem?_map,GF oG];rfl
     rw[take_add_one,this];rfl
    have s8:pQ ca clq i=clq.getD i 0::(ca.getD i []).map λt=>clq.getD t 0:=rfl
    have rZ:∀ n∈a7 (pQ ca clq i),0<=n/\n<90:=λn hn=>by
     obtain⟨c,hc,rfl⟩:=mem_map.1 hn;have:=VB WS (pQ ca clq i) (mem_map.2 ⟨i,by simp;omega,rfl⟩) c hc;omega
    have ao:(((sr ca clq).take i).map S).length=i:=by simp;omega
    have WI:=WI (l:=a7 (pQ ca clq i)) rZ (by rw[s8];simp only[a7,length_map,length_cons];omega) (by rw[s8];simp[a7]);have cR:∀ t∈ca.getD i [],t<clq.length:=λt ht=>by rw[dB];exact fI i t ht
    generalize (sr ca clq).take i=done at*
    generalize ca.getD i []=C at*
    generalize pQ ca clq i=key at*
    have ava:∀ {a},up (bA [(1,.cells [.z,.z,.z,.z] 86),(r,.cells (done.map S) 9)]) nx a r=some (.cells (done.map S) 9):=ay oG (by simp[bA];omega);refine ws (ag ?_);refine er (cz ?_);refine af (aG (aA (ek ?_)))
    refine af (cw (λs=>∃ nx',r<nx'/\aP prog s ⟨aD [(1,.pt (jq l sh (ca.map a7))),(2,.rp 1 0),(3,aU (a7 clq)),(4,I many),(5,.rs r 0 i),(7,aU (a7 key)),(19,I l.length),(20,I i)],bA [(1,.cells [.z,.z,.z,.z] 86),(r,.cells (done.map S) 9)],nx'⟩) (eB (α:=Nat×Nat×Nat)
     (λs=>⟨aD [(1,.pt (jq l sh (ca.map a7))),(2,.rp 1 0),(3,aU (a7 clq)),(4,I many),(5,.rs r 0 i),(7,.rs s.2.1 0 (s.1+1)),(19,I l.length),(20,I i),(32,aU (a7 C)),(33,I (a7 C).length),(34,I s.1)],bA [(1,.cells [.z,.z,.z,.z] 86),(r,.cells (done.map S) 9),(s.2.1,.cells ((a7 (clq.getD i 0::(C.take s.1).map λt=>clq.getD t 0)).map I) 3)],s.2.2⟩)
     (λs=>s.1<=C.length/\r<s.2.1/\s.2.1<s.2.2) (λs=>C.length - s.1) (0,nx,nx+1)
     (bp eH ⟨ay oG rfl,ava,aw _ _ _,aa⟩) ⟨Nat.zero_le _,AV,oM⟩ ?_) ?_)
    .rintro⟨j,X,nx'⟩ ⟨hj,cK,Kc⟩;dsimp only at hj cK Kc ⊢;refine SS ?_;refine af ⟨_,rfl,λh=>?_,λh=>?_⟩
     .have cW:j<C.length:=o2 h
      clear h;let⟨t,ht⟩:=o3 C j cW
      have htj:(a7 C)[j]? =some (t:Int):=by rw[getElem?_map,ht];rfl
      have eM:(a7 clq)[t]? =some ((clq.getD t 0:Nat):Int):=by rw[getElem?_map,fx (d:=0) (cR t (bD ht))];rfl
      have avb:a7 (clq.getD i 0::(C.take (j+1)).map λt=>clq.getD t 0)=a7 (clq.getD i 0::(C.take j).map λt=>clq.getD t 0)++[((clq.getD t 0:Nat):Int)]:=by rw[take_add_one,ht];simp[a7,map_append,map_cons,Option.toList_some,map_nil,cons_append]
      have O2:((a7 (clq.getD i 0::(C.take j).map λt=>clq.getD t 0)).map I).length=j+1:=by simp[a7,length_map,length_cons,length_take];omega
      generalize a7 (clq.getD i 0::(C.take j).map λt=>clq.getD t 0)=out at*
      have aF:bA [(1,.cells [.z,.z,.z,.z] 86),(r,.cells (done.map S) 9),(X,.cells (out.map I) 3)] X=some (.cells (out.map I) 3):=(Dm oG).trans ((Dm oG).trans EB);have azx:out.length=j+1:=o2 O2
      have avj:bA [(1,.cells [.z,.z,.z,.z] 86),(r,.cells (done.map S) 9),(X,.cells (out.map I) 3)] r=some (.cells (done.map S) 9):=(Dm oG).trans EB;refine ws (ax ?_);refine af (gj (cJ ?_));refine af (ag ?_);refine af (aW (j+1,nx'+1,nx'+1+1) ?_ ⟨oM,oM,oM⟩ oM);dsimp only;rw[avb];refine bp eH ⟨ay oG (ay oG (ay oG rfl)),ay oG (ay oG (ay oG avj)),l3.trans (by simp;rfl),aa⟩
     .have bt:¬ j<C.length:=o2 h
      have:j=C.length:=by omega
      subst this;rw[take_length, <- s8];have NI:key.length=C.length+1:=by rw[s8];simp
      refine⟨nx',oG,mq (i:=X) (cs:=(a7 key).map I) (e:=3) ((Dm oG).trans ((Dm oG).trans EB)) ⟨rfl,lz oG,rfl,rfl,yp oG,?_,rfl,rfl,aa⟩ ⟨zP oG rfl rfl,zP oG ((Dm oG).trans EB) (congrArg (Row.cells · 9) (Zo (λ_=>rfl) done)),aa⟩⟩;exact(lS (by rw[c3];simp;omega)).trans (by show _=D.sl _ _;simp[a7,length_map,NI])
    .rintro s ⟨nx',JC,J⟩;refine⟨_,J,gj ?_⟩;clear J;have aF:bA [(1,.cells [.z,.z,.z,.z] 86),(r,.cells (done.map S) 9)] r=some (.cells (done.map S) 9):=(Dm oG).trans EB;have atM:done.length=i:=o2 ao
     refine cz ?_;refine af (ag ?_);refine af (aW (i+1,nx'+1,nx'+1+1) ?_ ⟨oM,oM,oM⟩ oM);dsimp only;rw[eV];exact bp eH ⟨ay oG (ay oG (ay oG rfl)),l3.trans (by rw[map_append];simp;rfl),aa⟩
   .have bt:¬ i<l.length:=o2 h
    have:i=l.length:=by omega
    subst this;rw[cX oG];refine⟨nx,oG,mq (i:=r) (cs:=(sr ca clq).map S) (e:=9) (by simp[bA];omega) ⟨rfl,lz oG,rfl,rfl,?_,aa⟩ ⟨zP oG rfl rfl,aa⟩⟩;exact(lS (by rw[c9,length_map,iD];omega)).trans (by show _=D.sl _ _;rw[iD])
  .rintro s ⟨nx,O,J⟩;refine⟨_,J,al ?_⟩;clear J;let⟨Eh,Eu⟩:=ajK (ca:=ca) WS;have O6:=O6 (ks:=sr ca clq) oG;rw[Eh,Eu] at O6;have azI:many<=(cm (gU ca clq)).length:=by rw[U];exact Z' dB
   have azJ:(cm (gU ca clq)).length<=ca.length:=by have:=BI (gU ca clq);simpa using this
   have iL:(bT (gU ca clq)).length=ca.length:=by simp
   have Cl:=GG (gU ca clq);have VM:=Zv (ks:=gU ca clq) (n:=90) oP;cases eY with
   |zero=>omega
   |succ eY=>
   unfold EG at M;generalize (cm (gU ca clq)).length=more at*
   generalize bT (gU ca clq)=vy at*
   refine ek ?_;refine er (ag ?_);refine af (aG (al (ax ?_)));refine af (cM rfl (λh=>rh (ao0 oC ?_)) λh=>cI (gj ?_))
   .have hm:more=many:=by
     have:((more:Nat):Int)=many:=o2 h
     omega
    rw[ba hm] at M;subst M;exact⟨nx,O,au eH⟩
   .have hm:¬ more=many:=by
     intro e;subst e;simp at h
    rw[ai hm] at M;refine ag ?_;refine af (aW (vy,more,nx) (au eH) ⟨iL,Cl.symm,VM,⟨eY,oM,M⟩,O⟩ oM)
 .rintro s ⟨nx,O,J⟩;refine⟨_,J,al ?_⟩;refine aQ ?_;exact af (bj (LR (nG (kz (cs:=Bd l sh (ca.map a7) (a7 RR)) (vs:=Bd l sh (ca.map a7) (a7 RR)) rfl rfl a86 c86 rfl t86 (bY 4)) rfl)))
section
variable{ρ:Nat->Nat}{L:Nat->List D}
def eW.grow{m m':Mem}{nx nx' j j' n:Nat}{e et:TypeId}(h:eW m nx j n e et ρ L)(J:L n=[])(hj:nx<=j')(U:j'<nx')(aF:m' j'=some (.cells (jL ρ L n++[.z]) e))(hk:∀ q,q<nx->q≠j->m' q=m q):eW m' nx' j' (n+1) e et ρ L:=by
 have ao:∀ i,i<n+1->L i≠[]->i<n:=λi hi C=>by
  by_cases e:i=n
  .subst e;exact absurd J C
  .omega
 refine⟨?_,U,λi hi C=>?_,λi hi C=>?_,λi hi C=>?_,λa b ha hb O M=>h.inj a b (ao a ha O) (ao b hb M) O M⟩
 .rw[aF];unfold jL;rw[List.range_succ,List.map_append];simp[J,jc]
 .have:=ao i hi C;exact(hk _ (h.lt i this C) (h.ne i this C)).trans (h.rR i this C)
 .have:=h.lt i (ao i hi C) C;omega
 .have:=h.lt i (ao i hi C) C;omega
def eW.nil{m:Mem}{nx j:Nat}{e et:TypeId}(hm:m j=some (.cells [] e))(hj:j<nx):eW m nx j 0 e et ρ L:=
 ⟨hm,hj,λ_ h=>absurd h (Nat.not_lt_zero _),λ_ h=>absurd h (Nat.not_lt_zero _),λ_ h=>absurd h (Nat.not_lt_zero _),λ_ _ h=>absurd h (Nat.not_lt_zero _)⟩
end
def ju(clq:List Nat)(i k:Nat):List Nat:=(range i).filter λj=>clq.getD j 0==k
def aju(clq:List Nat)(i k:Nat):ju clq (i+1) k=ju clq i k++if clq.getD i 0==k then [i] else []:=by
 rw[ju,range_succ,filter_append];congr 1;simp[filter_cons,filter_nil]
def aej{clq:List Nat}{i n:Nat}(h:clq.getD i 0=n):(λk=>(a7 (ju clq (i+1) k)).map I)=up (λk=>(a7 (ju clq i k)).map I) n ((a7 (ju clq i n)++[(i:Int)]).map I):=by
 funext k;rw[aju,CM,h];by_cases e:k=n
 .subst e;rw[ba rfl,ba oS];simp[a7]
 .rw[ai e,ai (by simpa using λC=>e C.symm)];simp
def aaH(clq:List Nat)(i k:Nat):(ju clq i k).length<=i:=by
 unfold ju;have:=length_filter_le (λj=>clq.getD j 0==k) (range i);simpa using this
def aeN(clq:List Nat)(m:Nat):CY clq m=(range m).map λk=>a7 (ju clq clq.length k):=by
 unfold CY aa' ju;rw[List.map_map];rfl
section
variable{κ:Type}[DecidableEq κ]
def ie(ks:List κ)(i:Nat):Nat:=(cm (ks.take i)).length
def aek{ks:List κ}{i:Nat}(hi:i<ks.length):(bT ks).getD i 0<=ie ks i/\ie ks (i+1)=if(bT ks).getD i 0=ie ks i then ie ks i+1 else ie ks i:=by
 let⟨s,hs⟩:=o3 ks i hi
 let⟨h1,h2⟩:=aec hs
 have C:(bT ks)[i]? =some (if hZ (cm (ks.take i)) s then mH (cm (ks.take i)) s else(cm (ks.take i)).length):=by
  have:((bT ks).take (i+1))[i]? =((bT ks).take i++[if hZ (cm (ks.take i)) s then mH (cm (ks.take i)) s else(cm (ks.take i)).length])[i]? :=by rw[h2]
  rw[getElem?_take,ba oG,getElem?_append_right oP] at this;rw[this];have e:i - (take i (bT ks)).length=0:=by simp;omega
  rw[e];rfl
 rw[mW C];unfold ie;rw[h1];cases hm:hZ (cm (ks.take i)) s with
 |true=>
  have:=ac4 hm;simp only[if_true];refine⟨oG,?_⟩;rw[ai oG]
 |false=>simp
def aqP{ks:List κ}{i j:Nat}(hj:j<i)(hi:i<=ks.length):(bT ks).getD j 0<ie ks i:=by
 have h1:(bT (ks.take i))[j]? =some ((bT ks).getD j 0):=by
  rw[<- aba,getElem?_take,ba hj,fx (d:=0) oP]
 exact aer h1
def abT{ks:List κ}{i k:Nat}(hi:i<=ks.length)(hk:ie ks i<=k):ju (bT ks) i k=[]:=by
 rw[ju,filter_eq_nil_iff];intro j hj;have:=aqP (mem_range.1 hj) hi;rw[beq_iff_eq];omega
end
def WV{κ:Type}[DecidableEq κ]{l:List az}{sh:List ByteArray}{ca:List (List Int)}{ks:List κ}(hl:ks.length<=1000):
 aH prog 45 [.agg (Bd l sh ca (a7 (bT ks)))] (cr (CY (bT ks) (cm ks).length)):=by
 refine bx (fo f45) (.cons (.agg (YU _ _ _ _)) .nil) (nC _) ?_;refine aA (ag ?_);refine af (br (cH [(0,Bd l sh ca (a7 (bT ks)),86)] eH (l:=[(1,.pt (Bd l sh ca (a7 (bT ks))))]) eH) (aA ?_));refine SS ?_;refine af ⟨_,.oY _ _ _ 3 43 rfl,aG (aA ?_)⟩;refine aQ ?_;have dB:(a7 (bT ks)).length=ks.length:=by simp
 refine af (cw (λs=>∃ j m nx ρ,aP prog s ⟨aD [(3,.rs j 0 (ie ks ks.length))],m,nx⟩/\eW m nx j (ie ks ks.length) 43 3 ρ (λk=>(a7 (ju (bT ks) ks.length k)).map I)) (eB (α:=Nat×Nat×Mem×Nat)
  (λs=>⟨aD [(3,.rs s.2.1 0 (ie ks s.1)),(7,aU (a7 (bT ks))),(8,I (a7 (bT ks)).length),(9,I s.1)],s.2.2.1,s.2.2.2⟩)
  (λs=>s.1<=ks.length/\∃ ρ,eW s.2.2.1 s.2.2.2 s.2.1 (ie ks s.1) 43 3 ρ (λk=>(a7 (ju (bT ks) s.1 k)).map I)) (λs=>ks.length - s.1) (0,1,_,2)
  (au eH) ⟨Nat.zero_le _,λ_=>0,eW.nil rfl oM⟩ ?_) ?_)
 .rintro⟨i,j,m,nx⟩ ⟨hi,ρ,J⟩;dsimp only at hi J ⊢;refine SS ?_;refine af ⟨_,rfl,fun h=>?_,fun h=>?_⟩
  .have gh:i<ks.length:=by simpa using h
   clear h;let⟨c1,sf⟩:=aek gh;have O5:(a7 (bT ks))[i]? =some (((bT ks).getD i 0:Nat):Int):=by rw[getElem?_map,fx (d:=0) (o2 gh)];rfl
   have nV:=aej (clq:=bT ks) (i:=i) rfl;have Ut:=aaH (bT ks) i ((bT ks).getD i 0);have DR:∀ k,ie ks i<=k->ju (bT ks) i k=[]:=λk hk=>abT hi hk;have avx:ie ks i<=1000:=by have:=BI (ks.take i);simp[ie] at this ⊢;omega
   generalize hn:(bT ks).getD i 0=n at*
   generalize ie ks i=c at*
   generalize ju (bT ks) i=L at*
   have cW:=J.mY;refine ws (bh ?_);refine af (fS (λs=>∃ j' m' nx' C,n<ie ks (i+1)/\eW m' nx' j' (ie ks (i+1)) 43 3 C (λk=>(a7 (L k)).map I)/\aP prog s ⟨aD [(3,.rs j' 0 (ie ks (i+1))),(4,I i),(5,I n),(7,aU (a7 (bT ks))),(8,I (a7 (bT ks)).length),(9,I i)],m',nx'⟩) ?_ ?_)
   .refine ws ?_;have aF:=J.row;refine aQ ?_;refine af (aB rfl (λh=>nH ?_) λh=>bV ?_)
    .have e:n=c:=by
      have:(n:Int)=c:=o2 h
      omega
     rw[ba e] at sf;subst e;refine ag ?_;refine eT (eQ rfl (ay oG aF) rfl V.h V.h (fZ l3 rfl) rfl) ak ⟨V.h,rfl,cd,oC,c0,cD,(by rw[Ez];first|omega|(simp;omega)),da⟩ (SS ?_);refine af ⟨nx+1,_,nx+1+1,ρ,oG,?_,au ⟨?_,rfl,rfl,rfl,rfl,rfl,aa⟩⟩
     .rw[sf];refine J.grow (by rw[DR n (bY _)];rfl) oG oG ?_ (fun q hq qY=>?_)
      .exact(aw _ _ _).trans (by simp;rfl)
      .exact ay oG (ay oG (ay oG rfl))
     .rw[sf];rfl
    .have e:¬ n=c:=λe=>by subst e;simp at h
     rw[ai e] at sf;exact⟨j,m,nx,ρ,oG,by rw[sf];exact J,by rw[sf];exact au eH⟩
   .rintro s ⟨j',m',nx',C,O,M,gy⟩;refine⟨_,gy,gj ?_⟩;clear gy;have aF:=M.row;have azK:=M.mY;have Hq:(a7 (L n)).length<=i:=o2 Ut
    generalize X:ie ks (i+1)=c' at*
    let⟨cs,kd⟩:=Bi (ρ:=C) (L:=λk=>(a7 (L k)).map I) O;by_cases hz:L n=[]
    .have Bz:jc (C n) ((a7 (L n)).map I)=.z:=by rw[hz];rfl
     rw[Bz] at kd;refine aX ?_;refine ag ?_;refine af (ag ?_);refine af (aW (i+1,j',up (up (up m' nx' (some (.cells [I i] 3))) (nx'+1) (some (.cells [I i] 3))) j' (some (.cells ((jL C (λk=>(a7 (L k)).map I) c').set n (.rs (nx'+1) 0 1)) 43)),nx'+2) (au ⟨?_,rfl,rfl,rfl,aa⟩) ⟨oM,up C n (nx'+1),?_⟩ oM)
     .exact congrArg (λn=>D.rs j' 0 n) X.symm
     dsimp only;rw[nV,X];refine M.EC O oS oG oG ?_ ?_ (λq hq qY _=>?_)
     .rw[hz];exact aw _ _ _
     .rw[hz];exact ay oG l3
     .exact ay oG (ay oG (ay oG rfl))
    .have U:(a7 (L n)).map I≠[]:=o2 hz
     have Bz:jc (C n) ((a7 (L n)).map I)=.rs (C n) 0 (a7 (L n)).length:=by rw[sU U,length_map]
     rw[Bz] at kd;have fJ:=M.rR n O U;have Kk:=M.lt n O U;have Kl:=M.ne n O U;refine aX ?_;refine ag ?_;refine af (ag ?_);refine af (aW (i+1,j',up (up (up (up m' nx' (some (.cells [I i] 3))) (C n) none) (nx'+1) (some (.cells ((a7 (L n)).map I++[I i]) 3))) j' (some (.cells ((jL C (λk=>(a7 (L k)).map I) c').set n (.rs (nx'+1) 0 ((a7 (L n)).length+1))) 43)),nx'+2) (au ⟨?_,rfl,rfl,rfl,aa⟩) ⟨oM,up C n (nx'+1),?_⟩ oM)
     .exact congrArg (λn=>D.rs j' 0 n) X.symm
     dsimp only;rw[nV,X];refine M.EC O oS oG oG ?_ ?_ (λq hq qY qd=>?_)
     .have e:((a7 (L n)++[(i:Int)]).map I).length=(a7 (L n)).length+1:=by simp
      rw[e];exact aw _ _ _
     .rw[map_append];exact ay oG l3
     .have:=qd U;exact ay oG (ay oG (ay oG (ay oG rfl)))
  .have bt:¬ i<ks.length:=o2 h
   have:i=ks.length:=by omega
   subst this;exact⟨j,m,nx,ρ,au eH,J⟩
 .rintro s ⟨j,m,nx,ρ,hg,J⟩;have wq:ie ks ks.length=(cm ks).length:=by rw[ie,take_length]
  rw[wq] at hg J;have qf:¬ ∃ i,i<(cm ks).length/\(a7 (ju (bT ks) ks.length i)).map I≠[]/\ρ i=j:=λ⟨i,h1,h2,h3⟩=>J.ne i h1 h2 h3;refine⟨_,hg.trans (HW (l:=[(3,.rs j 0 (cm ks).length)]) (ml:=[]) (λr=>∃ i,i<(cm ks).length/\(a7 (ju (bT ks) ks.length i)).map I≠[]/\ρ i=r) J (λ_=>.map) c3 (λi h1 h2=>⟨i,h1,h2,rfl⟩) qf ⟨rfl,aa⟩ (λx hx=>?_) aa (λx hx=>by cases hx)),aA ?_⟩
  .simp at hx;subst hx;exact .rs qf
  refine ag ?_;refine af (br (cH [(j,_,43)] ⟨EB,aa⟩ (l:=[(2,cr (CY (bT ks) (cm ks).length))]) ⟨?_,aa⟩) (aC rfl rfl));show sub (dq j _ (prog.cellsOf 43)) (D.rs j 0 (cm ks).length)=_;rw[lS (by rw[ly];simp),Lv,aeN,Fo]
section
def AX(l:List az):List Nat:=za (dS l) (bC l)
def Ht(l:List az):List (List Int):=CY (AX l) (cm (AX l)).length
def pI(l:List az):D:=if(dK l).2=0 then cr (Ht l) else .z
def jM(es:List (Int×Nat)):List (Value×D):=es.map λe=>(.int .i64 e.1,I (e.2:Nat))
def VL(i:Int):∀ es:List (Int×Nat),(fF (.int .i64 i) (jM es)).map (·.2)=if jv es i then some (I (gH es i:Nat)) else none
 |[]=>rfl
 |e::es=>by
  have ih:=VL i es;have J:jM (e::es)=(Value.int .i64 e.1,I (e.2:Nat))::jM es:=rfl;rw[J];simp[fF];by_cases h:e.1=i
  .have hv:tk (Value.int .i64 e.1) (.int .i64 i)=true:=by rw[h];show(IntKind.i64==IntKind.i64&&i==i)=true;simp
   have h2:jv (e::es) i=true:=by unfold jv;simp[h]
   have C:gH (e::es) i=e.2:=by unfold gH;simp[h]
   rw[ba hv,h2,C];rfl
  .have hv:tk (Value.int .i64 e.1) (.int .i64 i)=false:=by show(IntKind.i64==IntKind.i64&&e.1==i)=false;simp[h]
   have h2:jv (e::es) i=jv es i:=by unfold jv;simp[h]
   have C:gH (e::es) i=gH es i:=by unfold gH;simp[h]
   rw[hv,ai oS,h2,C, <- ih,Option.map_map];rfl
variable{es:List (Int×Nat)}{i:Int}
def ajL(h:jv es i=false):gH es i=0:=by
 unfold gH;cases hf:es.find? λe=>e.1==i with
 |none=>rfl
 |some e=>
  have h1:=find?_some hf;have h2:=mem_of_find?_eq_some hf;have:jv es i=true:=any_eq_true.2 ⟨e,h2,h1⟩;rw[h] at this;cases this
def aeo{n:Nat}(h:jv es i=false):mG (.int .i64 i) (I (n:Nat)) (jM es)=jM (es++[(i,n)]):=by
 have h1:=VL i es;rw[h] at h1;unfold mG;cases hl:fF (.int .i64 i) (jM es) with
 |none=>simp[jM]
 |some x=>rw[hl] at h1;simp at h1
def Dj(p:Int->Int->Bool)(a b:List Int):Bool:=decide (a.length=b.length)&&(range a.length).all λi=>p (a.getD i 0) (b.getD i 0)
end
def Ja{l:List az}(hl:l.length<=1000):aH prog 16 [bS l] (.bu [pI l,I (dK l).2]):=by
 have tD:=tD hl
 have M:Tr (pI l):=by
  unfold pI;split
  .exact nC _
  .exact .z
 refine bx (fo f16) (.cons (kV l) .nil) (.bu (.cons M db)) ?_;unfold pI;by_cases he:(dK l).2=0
 .have C:=FQ he;rw[ba he,he];rw[Q8 he,he] at tD;have U:(dS l).length=(bC l).length:=by simp
  have Qx:=Qx (l:=l) (sh:=dL l) (ca:=bC l) (by simp[dL]) oS C.B6 C.len λx hx=>by
   obtain⟨f,hf,rfl⟩:=mem_map.1 hx;have:=zL f.blocks;have:=(Fx (Go.Abs.checked (C.sd f hf))).mh;simp;omega
  let⟨ks,hk,hs⟩:=abU U;have WV:=WV (l:=l) (sh:=dL l) (ca:=(bC l).map a7) (ks:=ks) (by simp at hk;omega);have O:za (bT (dL l)) (bC l)=bT ks:=hs;have J:Ht l=CY (bT ks) (cm ks).length:=by rw[Ht,AX,hs,GG]
  rw[O] at Qx;rw[J];refine ws (ag ?_);refine er (cJ ?_);refine af (aG (al (ag ?_)));refine af (sT (cI (al ?_)));refine bh ?_;exact af (fB rfl rfl rfl)
 .rw[ai he];rw[Qv he] at tD;generalize (dK l).2=err at*
  refine ws (ag ?_);refine er (cJ ?_);refine af (aG (al (ag ?_)));refine af (cM rfl (λh=>aG (al ?_)) λh=>?_)
  .refine ax ?_;exact af (de (fB rfl rfl rfl))
  .exfalso;revert h;simpa using he
def Hr(i:Int):ew prog 3 (.int .i64 i)=true:=by simp[ew,u3]
def O4(es:List (Int×Nat)):(jM es).all (λe=>ew prog 3 e.1)=true:=by
 refine bK.2 λe he=>?_;obtain⟨x,_,rfl⟩:=mem_map.1 he;exact Hr _
def avD:rF prog (qL prog 93)=I 0:=kr
def aeQ(i:Int)(es:List (Int×Nat)):lg prog 93 true (fF (.int .i64 i) (jM es))=.bu [I (gH es i:Nat),B (jv es i)]:=by
 have h:=VL i es;cases hl:fF (.int .i64 i) (jM es) with
 |none=>
  rw[hl] at h;cases hh:jv es i with
  |true=>rw[hh] at h;simp at h
  |false=>
   rw[ajL hh];show(D.bu [rF prog (qL prog 93),_])=_;rw[avD];rfl
 |some x=>
  rw[hl] at h;cases hh:jv es i with
  |false=>rw[hh] at h;simp at h
  |true=>
   rw[hh] at h;simp[Option.map_some,if_true,bg] at h;let⟨j,d⟩:=x;simp only at h;subst h;rfl
def aeO(i:Int)(es:List (Int×Nat)):lg prog 93 false (fF (.int .i64 i) (jM es))=I (gH es i:Nat):=by
 have h:=aeQ i es;cases hl:fF (.int .i64 i) (jM es) with
 |none=>
  rw[hl] at h;have h:D.bu [rF prog (qL prog 93),B false]=_:=h;have h1:=(cons.inj (D.bu.inj h)).1;exact h1
 |some x=>
  rw[hl] at h;have h:D.bu [x.2,B true]=_:=h;exact(cons.inj (D.bu.inj h)).1
def k50{a b:Int}{es:List (Int×Nat)}:aH prog 50 [I a,I b,.pt [.im (jM es)]] (B (((gH es a:Nat):Int)==(gH es b:Nat))):=by
 refine bx (fo f50) (.cons (.s _) (.cons (.s _) (.cons (.pt (.cons (.im λx hx=>by obtain⟨y,_,rfl⟩:=mem_map.1 hx;exact .s _) .nil)) .nil))) (Tr.s _) ?_;refine ws (SS ?_);refine er (ag ?_);refine aI (HR rfl rfl Hx (aeO a es)) aM ⟨I9,Hr _,O4 _⟩ (ag ?_);refine aI (HR rfl rfl Hx (aeO b es)) aM ⟨I9,Hr _,O4 _⟩ (ag ?_);exact af (aC rfl rfl)
def Xc{a b:List Int}{g:FuncId}{fs cs:List D}{p:Int->Int->Bool}(ht:Tr (.fn (.func g) fs cs))(hg:∀ x y,aH prog g (fs++[I x,I y]++cs) (B (p x y)))(ha:a.length<=100000):
 aH prog 49 [aU a,aU b,.fn (.func g) fs cs] (B (Dj p a b)):=by
 refine bx (fo f49) (.cons (dP a) (.cons (dP b) (.cons ht .nil))) (Tr.s _) ?_;refine ws (SS ?_);refine af (aG (al (bh ?_)));refine af (cM rfl (λh=>aG (al ?_)) λh=>cI (aG (aA ?_)))
 .have h:¬ a.length=b.length:=λe=>by rw[e] at h;simp at h
  rw[Dj,decide_eq_false h,Bool.false_and];refine SS ?_;exact af (de (aC rfl rfl))
 have h:a.length=b.length:=by
  have:(a.length:Int)=b.length:=o2 h
  omega
 rw[Dj,decide_eq_true h,Bool.true_and];refine ax ?_
 refine af (cw (λs=>∃ m nx,aP prog s ⟨aD [],m,nx⟩/\(range a.length).all (λi=>p (a.getD i 0) (b.getD i 0))=true) (eB (α:=Nat×Mem×Nat)
  (λs=>⟨aD [(1,aU b),(2,.fn (.func g) fs cs),(15,aU a),(16,I a.length),(17,I s.1)],s.2.1,s.2.2⟩)
  (λs=>s.1<=a.length/\(range s.1).all (λi=>p (a.getD i 0) (b.getD i 0))=true) (λs=>a.length - s.1) (0,_,_)
  (au eH) ⟨Nat.zero_le _,rfl⟩ ?_) ?_)
 .rintro⟨i,m,nx⟩ ⟨hi,C⟩;dsimp only at hi C ⊢;refine SS ?_;refine af ⟨_,rfl,λh=>?_,λh=>?_⟩
  .have J:i<a.length:=o2 h
   let⟨x,hx⟩:=o3 a i J
   let⟨y,hy⟩:=o3 b i oG
   have O:=hg x y;have hp:p (a.getD i 0) (b.getD i 0)=p x y:=by rw[mW hx,mW hy]
   refine ws (bh ?_);refine er (bh ?_);refine er (bh ?_);refine af (aB rfl (λh=>al ?_) λh=>cB ?_)
   .have hf:p x y=false:=o2 h
    rw[py J (hp.trans hf)];refine SS ?_;exact af (bj (bP (aY (aC rfl rfl))))
   .have hf:p x y=true:=o2 h
    refine ag ?_;exact af (aW (i+1,m,nx) (au eH) ⟨oM,mn C (hp.trans hf)⟩ oM)
  .have U:¬ i<a.length:=o2 h
   have:i=a.length:=by omega
   subst this;exact⟨m,nx,au aa,C⟩
 .rintro s ⟨m,nx,M,C⟩;rw[C];refine⟨_,M,al ?_⟩;refine SS ?_;exact af (aC rfl rfl)
section
def alP{l:List az}{i j:Nat}{s t:ByteArray}(hi:(dL l)[i]? =some s)(hj:(dL l)[j]? =some t):((dS l).getD i 0==(dS l).getD j 0)=(s.toList==t.toList):=by
 have h1:(bT (dL l))[i]? =some ((dS l).getD i 0):=fx (by have:=(bQ.1 hi).1;simpa[dS] using this);have h2:(bT (dL l))[j]? =some ((dS l).getD j 0):=fx (by have:=(bQ.1 hj).1;simpa[dS] using this);have h:=Lw hi hj;rw[h1,h2,bg] at h;rw[ym,ym];by_cases e:s=t
 .rw[h.2 e,e];simp
 .rw[beq_eq_false_iff_ne.2 λC=>e (h.1 C),beq_eq_false_iff_ne.2 λC=>e (Ab C)]
def ao3(es:List (Int×Nat))(a b:List Nat):Dj (λx y=>((gH es x:Nat):Int)==(gH es y:Nat)) (a7 a) (a7 b)=decide (a.map (λ(t:Nat)=>gH es t)=b.map λ(t:Nat)=>gH es t):=by
 have key:Dj (λx y=>((gH es x:Nat):Int)==(gH es y:Nat)) (a7 a) (a7 b)=true↔a.map (λ(t:Nat)=>gH es t)=b.map λ(t:Nat)=>gH es t:=by
  unfold Dj;simp only[aJ,decide_eq_true_eq,length_map];constructor
  .rintro⟨h1,h2⟩;refine ext_getElem? λi=>?_;by_cases hi:i<a.length
   .have:=bK.1 h2 i (mem_range.2 hi);have ha:(a7 a)[i]? =some ((a.getD i 0:Nat):Int):=by rw[getElem?_map,fx (d:=0) hi];rfl
    have hb:(a7 b)[i]? =some ((b.getD i 0:Nat):Int):=by rw[getElem?_map,fx (d:=0) (show i<b.length by omega)];rfl
    rw[mW ha,mW hb] at this;rw[getElem?_map,getElem?_map,fx (d:=0) hi,fx (d:=0) (show i<b.length by omega)];have:((gH es (a.getD i 0:Nat):Nat):Int)=(gH es (b.getD i 0:Nat):Nat):=o2 this
    simp only[Option.map_some,bg];omega
   .rw[getElem?_eq_none oP,getElem?_eq_none oP]
  .intro h;have hl:a.length=b.length:=o2 (congrArg length h)
   refine⟨hl,bK.2 λi hi=>?_⟩;have hi:i<a.length:=mem_range.1 hi;have ha:(a7 a)[i]? =some ((a.getD i 0:Nat):Int):=by rw[getElem?_map,fx (d:=0) hi];rfl
   have hb:(a7 b)[i]? =some ((b.getD i 0:Nat):Int):=by rw[getElem?_map,fx (d:=0) (show i<b.length by omega)];rfl
   rw[mW ha,mW hb];have:=congrArg (λl=>l[i]?) h;simp only[getElem?_map] at this;rw[fx (d:=0) hi,fx (d:=0) (show i<b.length by omega)] at this;simp only[Option.map_some,bg] at this;rw[this];simp
 by_cases h:a.map (λ(t:Nat)=>gH es t)=b.map λ(t:Nat)=>gH es t
 .rw[decide_eq_true h,key.2 h]
 .rw[decide_eq_false h,Bool.eq_false_iff];exact λh'=>h (key.1 h')
def Ac(l:List az)(c:List (List Int)):Bool:=if(dK l).2=0 then tE (dS l) (bC l) c else false
variable{sn:List Nat}{ca:List (List Nat)}{c:List (List Int)}{n:Nat}
def VP(hn:n<c.length)(h:qE ca.length c n=false):tE sn ca c=false:=by
 rw[tE,py hn h,Bool.false_and]
variable{N:Nat}{x:List Int}
def M5(h:c[n]? =some x):qE N c n=(BM c n x&&(range x.length).all (wl N c n x)):=by rw[qE,h]
def anI{k:Nat}(h:c[n]? =some x)(hk:k<x.length)(he:wl N c n x k=false):qE N c n=false:=by rw[M5 h,py hk he,Bool.and_false]
def anK(es:List (Int×Nat)):(jM es).length=es.length:=by simp[jM]
def apn(h:(entries c).length≠ca.length):tE sn ca c=false:=by
 rw[tE,decide_eq_false h];simp
def anL(hx:x∈c)(h:yw sn ca (entries c) x=false):tE sn ca c=false:=by
 unfold tE
 have:c.all (yw sn ca (entries c))=false:=by
  rw[Bool.eq_false_iff];intro ht;rw[bK.1 ht x hx] at h;cases h
 rw[this];simp
def A'{α:Type}{p:α->Bool}{l:List α}{k:Nat}{x:α}(hx:l[k]? =some x)(h:(l.take k).all p=true)(hp:p x=true):(l.take (k+1)).all p=true:=by
 rw[take_add_one,hx,all_append,h];simp[hp]
end
def aqQ{P:Program}{env:Env}{m:Mem}{nx:Nat}{x y:Operand}{t e:TypeId}{a:Int}{l:List Int}(hx:(opd env x).core=aU (a::l))(hy:(opd env y).core=.s (.int .i64 1))(he:aT P t=e)(hs:P.cellsOf e=1)(ht:bH P t=true):
 Ef P (.slice t x (some y) none none) env m nx ⟨True,aU l,[],[],0⟩:=by
 have h:=CU (P:=P) (env:=env) (m:=m) (nx:=nx) (t:=t) (lo:=some y) (hi:=none) (a:=1) (b:=((a::l).length:Int)) (es':=l.map I) hx he hs (by simp[gg,hy,D.int?]) (by simp[gg]) (by
  simp[map_cons,Int.reduceToNat,Nat.mul_one,drop_succ_cons,drop_zero,length_cons]
  exact cX oS)
 have h2:(bH P t=true/\(0:Int)<=1/\(1:Int)<=((a::l).length:Int)/\((a::l).length:Int)<=((a::l).length:Int))=True:=by
  apply propext;constructor
  .exact λ_=>trivial
  .exact λ_=>⟨ht,oG,by simp;omega,oG⟩
 have C:(((a::l).length:Int) - 1).toNat=l.length:=by simp
 rw[h2,C] at h;exact h
def apo{l:List az}{c:List (List Int)}(hl:l.length<=1000)(he:(dK l).2≠0):aH prog 18 [bS l,cr c] (.bu [B false,I (dK l).2]):=by
 have tD:=tD hl;refine bx (fo f18) (.cons (kV l) (.cons (nC c) .nil)) (.bu (.cons (.s _) db)) ?_;rw[Qv he] at tD;generalize (dK l).2=err at*
 refine ws (ag ?_);refine er (cJ ?_);refine af (aG (al (ag ?_)));refine af (cM rfl (λh=>aG (al ?_)) λh=>?_)
 .refine ax ?_;exact af (de (fB rfl rfl rfl))
 .exfalso;revert h;simpa using he
def aqX{l:List az}{c:List (List Int)}(hl:l.length<=1000)(he:(dK l).2=0)(wo:c.length<=100000)(me:∀ x∈c,x.length<=100000):aH prog 18 [bS l,cr c] (.bu [B (tE (dS l) (bC l) c),I 0]):=by
 have tD:=tD hl;refine bx (fo f18) (.cons (kV l) (.cons (nC c) .nil)) (.bu (.cons (.s _) db)) ?_;have hL:=FQ he;rw[Q8 he,he] at tD;have Cv:=Cv (l:=l) (sh:=dL l) (ca:=(bC l).map a7);have hN:(bC l).length=l.length:=by simp
 refine ws (ag ?_);refine er (cJ ?_);refine af (aG (al (ag ?_)));refine af (cM rfl (λh=>by cases h) λh=>cI (aA ?_));refine ag ?_;refine dH (lT (d:=.mp _) (cs':=[_]) rfl rfl rfl rfl rfl) ak (eO V.h V.h bi rfl) (af ⟨_,mq (i:=0) (cs:=jq l (dL l) ((bC l).map a7)) (e:=82) rfl (l:=[(1,cr c),(6,.pt (jq l (dL l) ((bC l).map a7))),(8,.rp 2 0)]) ⟨rfl,nh,rfl,aa⟩ (ml:=[(1,.map (jM [])),(2,.cells [.mp 1] 93)]) eH,al ?_⟩);refine SS ?_;refine af (aG (aA (ax ?_)))
 refine af (cw (λs=>(∃ nx,2<nx/\aP prog s ⟨aD [(1,cr c),(6,.pt (jq l (dL l) ((bC l).map a7))),(8,.rp 2 0)],bA [(1,.map (jM (entries c))),(2,.cells [.mp 1] 93)],nx⟩)/\(range c.length).all (qE (bC l).length c)=true) (eB (α:=Nat×Nat)
  (λs=>⟨aD [(1,cr c),(6,.pt (jq l (dL l) ((bC l).map a7))),(8,.rp 2 0),(9,I (Ae c s.1)),(29,cr c),(30,I c.length),(31,I s.1)],bA [(1,.map (jM (entries (c.take s.1)))),(2,.cells [.mp 1] 93)],s.2⟩)
  (λs=>s.1<=c.length/\2<s.2/\(range s.1).all (qE (bC l).length c)=true) (λs=>c.length - s.1) (0,3)
  (bp eH eH) ⟨Nat.zero_le _,oC,rfl⟩ ?_) ?_)
 .rintro⟨n,nx⟩ ⟨hn,J,U⟩;dsimp only at hn J U ⊢;refine SS ?_;refine af ⟨_,rfl,λh=>?_,λh=>?_⟩
  .have X:n<c.length:=o2 h
   clear h;let⟨x,hx⟩:=o3 c n X
   have xL:=me x (bD hx);refine ws (bh ?_);cases x with
   |nil=>
    refine af (aG (al (aQ ?_)));(iterate 5 refine z λ_ _=>?_);refine SS ?_;refine af (cM rfl (λh=>aG (al ?_)) λh=>by cases h);have hr:qE (bC l).length c n=false:=by rw[M5 hx];rfl
    rw[VP X hr];refine ag ?_;exact af (de (bP (aY (fB rfl rfl rfl))))
   |cons a C=>
    have ha:(a::C)[0]? =some a:=rfl;have xX:BM c n (a::C)=decide (Ae c n<a):=rfl;have Qs:Ae c (n+1)=a:=by rw[Ae,ai oG,show n+1 - 1=n by omega,mW hx];rfl
    have aR:(((a::C).length:Int)==0)=false:=by simp;omega
    have xV:=hx;generalize hxx:a::C=x at hx ha xX xL aR;refine af (aG (al ?_));have iy:=aR;refine cJ ?_;refine ag ?_;refine af (cM rfl (λh=>aG (al ?_)) λh=>cI (al ?_))
    .have hr:qE (bC l).length c n=false:=by
      have h:a<=Ae c n:=o2 h
      rw[M5 hx,xX,decide_eq_false oG,Bool.false_and]
     rw[VP X hr];refine ag ?_;exact af (de (bP (aY (fB rfl rfl rfl))))
    have awc:BM c n x=true:=by
     have h:¬ a<=Ae c n:=o2 h
     rw[xX,decide_eq_true oG]
    clear h;refine aQ ?_;refine af (aA (ax ?_))
    refine af (eB (α:=Nat×Nat)
     (λs=>⟨aD [(1,cr c),(6,.pt (jq l (dL l) ((bC l).map a7))),(8,.rp 2 0),(9,I a),(10,I n),(11,aU x),(29,cr c),(30,I c.length),(31,I n),(49,aU x),(50,I x.length),(51,I s.1)],bA [(1,.map (jM (entries (c.take n)++(x.take s.1).map λj=>(j,n)))),(2,.cells [.mp 1] 93)],s.2⟩)
     (λs=>s.1<=x.length/\2<s.2/\(range s.1).all (wl (bC l).length c n x)=true) (λs=>x.length - s.1) (0,nx)
     (bp eH ⟨by rw[take_zero,map_nil,append_nil];rfl,rfl,aa⟩) ⟨Nat.zero_le _,J,rfl⟩ ?_)
    rintro⟨k,nx⟩ ⟨hk,J,qg⟩;dsimp only at hk J qg ⊢;refine SS ?_;refine af ⟨_,rfl,λh=>?_,λh=>?_⟩
    .have iD:k<x.length:=o2 h
     clear h;let⟨i,hi⟩:=o3 x k iD
     have Gj:bA [(1,Row.map (jM (entries (c.take n)++(x.take k).map λj=>(j,n)))),(2,.cells [.mp 1] 93)] 1=some (.map (jM (entries (c.take n)++(x.take k).map λj=>(j,n)))):=rfl;have O:wl (bC l).length c n x k=(!(jv (entries (c.take n)++(x.take k).map λj=>(j,n)) i)&&(decide (0<=i)&&(decide (i<(bC l).length)&&(decide (k=0)||decide (x.getD (k - 1) 0<i))))):=by rw[wl,hi]
     have eV:(entries (c.take n)++(x.take (k+1)).map λj=>(j,n))=(entries (c.take n)++(x.take k).map λj=>(j,n))++[(i,n)]:=by rw[take_add_one,hi,map_append,append_assoc];rfl
     generalize (entries (c.take n)++(x.take k).map λj=>(j,n))=es at*
     refine ws (bh ?_);refine af (aG (al (ag ?_)));refine aI (QO rfl Gj rfl Hx (aeQ i es)) aM ⟨I9,Hr i,O4 es⟩ (bh ?_);refine af (aG (al ?_));have gM:wl (bC l).length c n x k=false->tE (dS l) (bC l) c=false:=λh=>VP X (anI hx iD h);have Qd:decide ((l.length:Int)<=i)= !decide (i<((bC l).length:Int)):=by rw[hN];by_cases h:i<(l.length:Int)<;>simp[h];omega
     have pZ:decide (i<(0:Int))= !decide (0<=i):=by by_cases h:0<=i<;>simp[h];omega
     cases k with
     |zero=>
      have rP:decide ((0:Int)<((0:Nat):Int))=false:=rfl;refine ek ?_;refine cF rfl rfl (nZ rfl V.h V.h rfl) (λhc=>⟨ak,(n9 V.h V.h oS)⟩) (ek ?_);refine pH rfl ey λ_ _=>?_;refine pH rfl ey λ_ _=>?_;refine pH rfl ey λ_ _=>?_;refine pH rfl ey λ_ _=>?_;refine pH rfl ey λ_ _=>?_;refine pH rfl ey λ_ _=>?_;refine pH rfl ey λ_ _=>?_;refine ag ?_;refine af (cM rfl (λh=>aG (al ?_)) λh=>cI (gj ?_))
      .rw[gM (by rw[O];revert h;rw[Qd,pZ];cases jv es i<;>cases decide (0<=i)<;>cases decide (i<((bC l).length:Int))<;>simp)];refine ag ?_;exact af (de (bP (bP (aY (fB rfl rfl rfl)))))
      .have M:wl (bC l).length c n x 0=true:=by rw[O];revert h;rw[Qd,pZ];cases jv es i<;>cases decide (0<=i)<;>cases decide (i<((bC l).length:Int))<;>simp
       have eD:jv es i=false:=by
        rw[O] at M;simp[aJ,Bool.not_eq_true'] at M;exact M.1
       refine ax ?_;apply dH (IE (key:=.int .i64 i) (v:=I (n:Nat)) rfl Gj rfl rfl Hx) aM ⟨I9,Hr i,O4 es⟩;rw[aeo eD];refine af (ag ?_);refine af (aW (0+1,nx) ?_ ⟨oM,J,mn qg M⟩ oM);dsimp only;rw[eV];exact bp eH ⟨aw _ _ _,rfl,aa⟩
     |succ k=>
      let⟨y,hy⟩:=o3 x k oG
      have rP:decide ((0:Int)<((k+1:Nat):Int))=true:=decide_eq_true oG;have uu:((k+1:Nat):Int) - 1=(k:Nat)/\ -9223372036854775808<=((k:Nat):Int)/\((k:Nat):Int)<=9223372036854775807:=⟨oG,oG,oG⟩
      have hgy:decide (i<=y)= !decide (y<i):=by by_cases h:y<i<;>simp[h];omega
      rw[show k+1 - 1=k by omega,mW hy,decide_eq_false (show ¬ k+1=0 by omega),Bool.false_or] at O;refine ek ?_;refine cF rfl rfl (nZ rfl V.h V.h rfl) (λhc=>⟨ak,(n9 V.h V.h oS)⟩) (aX ?_);refine ek ?_;refine af (cM rfl (λh=>aG (al ?_)) λh=>cI (gj ?_))
      .rw[gM (by rw[O];revert h;rw[Qd,pZ,hgy];cases jv es i<;>cases decide (0<=i)<;>cases decide (i<((bC l).length:Int))<;>cases decide (y<i)<;>simp)];refine ag ?_;exact af (de (bP (bP (aY (fB rfl rfl rfl)))))
      .have M:wl (bC l).length c n x (k+1)=true:=by rw[O];revert h;rw[Qd,pZ,hgy];cases jv es i<;>cases decide (0<=i)<;>cases decide (i<((bC l).length:Int))<;>cases decide (y<i)<;>simp
       have eD:jv es i=false:=by
        rw[O] at M;simp[aJ,Bool.not_eq_true'] at M;exact M.1
       refine ax ?_;apply dH (IE (key:=.int .i64 i) (v:=I (n:Nat)) rfl Gj rfl rfl Hx) aM ⟨I9,Hr i,O4 es⟩;rw[aeo eD];refine af (ag ?_);refine af (aW ((k+1)+1,nx) ?_ ⟨oM,J,mn qg M⟩ oM);dsimp only;rw[eV];exact bp eH ⟨aw _ _ _,rfl,aa⟩
    .have bt:¬ k<x.length:=o2 h
     have:k=x.length:=by omega
     subst this;rw[take_length, <- XC hx];have Xe:qE (bC l).length c n=true:=by rw[M5 hx,awc,qg];rfl
     show aE _ _ _ _ _ _ _ _ _;refine ag ?_;refine af (aW (n+1,nx) (bp ⟨rfl,rfl,rfl,?_,rfl,rfl,rfl,aa⟩ eH) ⟨oM,J,mn U Xe⟩ oM);dsimp only;rw[Qs];rfl
  .have bt:¬ n<c.length:=o2 h
   have:n=c.length:=by omega
   subst this;rw[take_length];exact⟨⟨nx,J,au eH⟩,U⟩
 .rintro s ⟨⟨nx,J,gy⟩,U⟩;have aeR:=S' U c.length (bY _);rw[take_length] at aeR;let⟨_,awd⟩:=aeR;have Gj:bA [(1,Row.map (jM (entries c))),(2,.cells [.mp 1] 93)] 1=some (.map (jM (entries c))):=rfl;refine⟨_,gy,aG (al ?_)⟩;clear gy;refine SS ?_;apply zh (VX rfl rfl V.h) ak;rw[anK];refine ax ?_;refine af (cM rfl (λh=>aG (al ?_)) λh=>cI (aG (aA ?_)))
  .have h:(entries c).length≠(bC l).length:=λe=>by rw[e,hN] at h;simp at h
   rw[apn h];refine ag ?_;exact af (de (fB rfl rfl rfl))
  have hlen:(entries c).length=(bC l).length:=by
   have:((entries c).length:Int)=l.length:=o2 h
   omega
  clear h;refine ax ?_
  have lJ:∀ x∈c,∀ i∈x,0<=i/\i<(l.length:Int):=λx hx i hi=>by
   let⟨n,hn⟩:=cV hx;have:=awd (i,n) (GD.2 ⟨x,hn,hi⟩);rw[hN] at this;exact this
  have awe:tE (dS l) (bC l) c=c.all (yw (dS l) (bC l) (entries c)):=by rw[tE,U,decide_eq_true hlen];simp
  have nv:∀ x∈c,yw (dS l) (bC l) (entries c) x=false->tE (dS l) (bC l) c=false:=λx hx h=>anL hx h;generalize entries c=es at*
  refine af (cw (λs=>(∃ m nx,aP prog s ⟨aD [],m,nx⟩)/\c.all (yw (dS l) (bC l) es)=true) (eB (α:=Nat×Nat)
   (λs=>⟨aD [(6,.pt (jq l (dL l) ((bC l).map a7))),(8,.pt [.im (jM es)]),(96,cr c),(97,I c.length),(98,I s.1)],λ_=>none,s.2⟩)
   (λs=>s.1<=c.length/\(c.take s.1).all (yw (dS l) (bC l) es)=true) (λs=>c.length - s.1) (0,nx)
   ((aP.LJ _ _ _ 1 (jM es) rfl).trans (gd (i:=2) (cs:=[.im (jM es)]) (e:=93) rfl eH)) ⟨Nat.zero_le _,rfl⟩ ?_) ?_)
  .rintro⟨n,nx⟩ ⟨hn,jl⟩;dsimp only at hn jl ⊢;refine SS ?_;refine af ⟨_,rfl,λh=>?_,λh=>?_⟩
   .have X:n<c.length:=o2 h
    clear h;let⟨x,hx⟩:=o3 c n X
    have dW:=bD hx;have G0:=bK.1 U n (mem_range.2 X);rw[M5 hx] at G0;refine ws (ax ?_);cases x with
    |nil=>simp[BM] at G0
    |cons a C=>
     let⟨a0,aN⟩:=lJ _ dW a oS;obtain⟨p,rfl⟩:=jy a0;have azP:C.length<=100000:=by have:=me _ dW;simp at this;omega
     have r6:p<l.length:=by omega
     have ha:((p:Int)::C)[0]? =some ((p:Nat):Int):=rfl;let⟨sa,Bq⟩:=o3 (dL l) p (by simpa[dL] using r6)
     have fI:((bC l).map a7)[p]? =some (a7 ((bC l).getD p [])):=by rw[getElem?_map,fx (d:=[]) (o2 r6)];rfl
     refine af (aA (SS ?_));refine aI (aqQ rfl rfl dJ c3 dI) aM aa (ag ?_)
     refine af (eB (α:=Nat×Nat)
      (λs=>⟨aD [(6,.pt (jq l (dL l) ((bC l).map a7))),(8,.pt [.im (jM es)]),(17,aU ((p:Int)::C)),(96,cr c),(97,I c.length),(98,I n),(103,aU C),(104,I C.length),(105,I s.1)],λ_=>none,s.2⟩)
      (λs=>s.1<=C.length/\(C.take s.1).all (CW (dS l) (bC l) es p)=true) (λs=>C.length - s.1) (0,nx)
      (au eH) ⟨Nat.zero_le _,rfl⟩ ?_)
     rintro⟨k,nx⟩ ⟨hk,QS⟩;dsimp only at hk QS ⊢;refine SS ?_;refine af ⟨_,rfl,λh=>?_,λh=>?_⟩
     .have iD:k<C.length:=o2 h
      clear h;let⟨i,hi⟩:=o3 C k iD
      let⟨i0,iN⟩:=lJ _ dW i (mem_cons_of_mem _ (bD hi));obtain⟨m,rfl⟩:=jy i0;have pr:m<l.length:=by omega
      let⟨si,cZ⟩:=o3 (dL l) m (by simpa[dL] using pr)
      have O5:((bC l).map a7)[m]? =some (a7 ((bC l).getD m [])):=by rw[getElem?_map,fx (d:=[]) (o2 pr)];rfl
      have avk:(a7 ((bC l).getD m [])).length<=100000:=by
       let⟨f,hf⟩:=o3 l m pr
       rw[Ly hf];have:=zL f.blocks;have:=(Fx (Go.Abs.checked (hL.sd f (bD hf)))).mh;simp;omega
      have Xc:=Xc (a:=a7 ((bC l).getD m [])) (b:=a7 ((bC l).getD p [])) (g:=50) (fs:=[]) (cs:=[.pt [.im (jM es)]]) (p:=λx y=>((gH es x:Nat):Int)==(gH es y:Nat)) (.fn oS (.cons (.pt (.cons (.im λx hx=>by obtain⟨y,_,rfl⟩:=mem_map.1 hx;exact .s _) .nil)) .nil)) (λx y=>k50) avk
      have Ov:CW (dS l) (bC l) es p m=((si.toList==sa.toList)&&Dj (λx y=>((gH es x:Nat):Int)==(gH es y:Nat)) (a7 ((bC l).getD m [])) (a7 ((bC l).getD p []))):=by
       rw[CW,eU,eU,alP cZ Bq,ao3]
      generalize a7 ((bC l).getD m [])=ci at*
      generalize a7 ((bC l).getD p [])=cp at*
      generalize Dj (λx y=>((gH es x:Nat):Int)==(gH es y:Nat)) ci cp=ef at*
      refine ws (ax ?_);refine af (c6 gw ?_);refine aX ?_;refine aX ?_;refine cJ ?_;refine cF rfl rfl (R8 rfl rfl) (λhc=>⟨ak,aa⟩) (ax ?_);refine bJ bM (aB rfl (λh=>al ?_) λh=>cB ?_)
      .have hb:CW (dS l) (bC l) es p m=false:=by
        rw[Ov];revert h;cases (si.toList==sa.toList)<;>cases ef<;>simp
       have hr:yw (dS l) (bC l) es ((p:Int)::C)=false:=by
        rw[Bool.eq_false_iff];intro ht;have:=bK.1 ht (m:Int) (bD hi);simp[headD_cons] at this;rw[hb] at this;cases this
       rw[nv _ dW hr];refine ag ?_;exact af (bj (bP (bP (aY (fB rfl rfl rfl)))))
      .have hb:CW (dS l) (bC l) es p m=true:=by
        rw[Ov];revert h;cases (si.toList==sa.toList)<;>cases ef<;>simp
       refine ag ?_;exact af (aW (k+1,nx) (au eH) ⟨oM,A' hi QS hb⟩ oM)
     .have bt:¬ k<C.length:=o2 h
      rw[cX oG] at QS;have hr:yw (dS l) (bC l) es ((p:Int)::C)=true:=QS;show aE _ _ _ _ _ _ _ _ _;refine ag ?_;exact af (aW (n+1,nx) (au eH) ⟨oM,A' hx jl hr⟩ oM)
   .have bt:¬ n<c.length:=o2 h
    rw[cX oG] at jl;exact⟨⟨_,_,au aa⟩,jl⟩
  .rintro s ⟨⟨m,nx,gy⟩,jl⟩;rw[awe,jl];refine⟨_,gy,al ?_⟩;refine ag ?_;exact af (fB rfl rfl rfl)
def Ki{l:List az}{c:List (List Int)}(hl:l.length<=1000)(J:c.length<=100000)(C:∀ x∈c,x.length<=100000):aH prog 18 [bS l,cr c] (.bu [B (Ac l c),I (dK l).2]):=by
 by_cases he:(dK l).2=0
 .have:=aqX hl he J C;unfold Ac
  rwa[ba he,he]
 .have:=apo (c:=c) hl he;unfold Ac
  rwa[ai he]
def B4(c:List (List Int)):Bool:=c.all (λx=>decide (x.length<=15))&&decide (c.length<=15)
def Rn{c:List (List Int)}:aH prog 14 [cr c] (B (B4 c)):=by
 refine nB (fo f14).he (.cons (nC _) .nil) λJ=>?_;have hlen:=(J (cr c) oS).sl.1
 have M:∀ x∈c,x.length<=9223372036854775807:=λx hx=>by
  have:=((J (cr c) oS).sl.2 (aU x) (mem_map_of_mem hx)).sl.1;unfold maxLen at this;omega
 unfold maxLen at hlen;refine bx (fo f14) (.cons (nC _) .nil) (Tr.s _) ?_;refine ws (SS ?_);refine af (aG (aA (SS ?_)))
 refine af (cw (λs=>(∃ nx,aP prog s ⟨aD [(0,cr c)],λ_=>none,nx⟩)/\c.all (λx=>decide (x.length<=15))=true) (cT (α:=Nat) (λk=>⟨aD [(0,cr c),(3,I k)],λ_=>none,0⟩)
  (λk=>k<=c.length/\(c.take k).all (λx=>decide (x.length<=15))=true) (λk=>c.length - k) 0 (au eH) ⟨oG,rfl⟩ ?_) ?_)
 .rintro k ⟨hk,C⟩;refine aQ ?_;refine af ⟨_,rfl,λh=>?_,λh=>?_⟩
  .have ao:k<c.length:=o2 h
   let⟨x,hx⟩:=o3 c k ao
   have U:=M x (bD hx);refine ws (cz ?_);refine af (aB rfl (λhp=>al ?_) λhp=>cB ?_)
   .have hb:B4 c=false:=by
     unfold B4
     have:c.all (λx=>decide (x.length<=15))=false:=by
      rw[Bool.eq_false_iff];intro ht;have:=bK.1 ht x (bD hx);simp at this hp;omega
     rw[this];rfl
    rw[hb];refine SS ?_;exact af (bj (bP (aY (aC rfl rfl))))
   .have hb:decide (x.length<=15)=true:=by
     simp at hp ⊢;omega
    show aE _ _ _ _ _ _ _ _ _;refine ax ?_;exact af (aW (k+1) (au eH) ⟨oG,A' hx C hb⟩ oG)
  .have O:¬ k<c.length:=o2 h
   rw[cX oG] at C;exact⟨⟨0,au eH⟩,C⟩
 .rintro s ⟨⟨nx,hg⟩,C⟩
  have hb:B4 c=decide ((c.length:Int)<=15):=by
   rw[B4,C,Bool.true_and];exact decide_eq_decide.2 oG
  rw[hb];refine⟨_,hg,al ?_⟩;refine aQ ?_;exact af (aC rfl rfl)
def or5:∀ a b c d e:Bool,(if(if(if(if a=true then true else b)=true then true else c)=true then true else d)=true then true else e)=(a||(b||(c||(d||e)))):=by decide
def GH(f:az):Bool:=decide (12<(f.blocks.length:Int))||(decide (20<(f.aj.length:Int))||(decide (10<(f.a6.length:Int))||(decide (8<(f.signals.length:Int))||decide (130<(f.name.size:Int)))))
def DW(b:bI):Bool:=decide (8<(b.ins.length:Int))||(decide (8<(b.fin.aK.length:Int))||(decide (8<(b.fin.args.length:Int))||(decide (130<(b.fin.name.size:Int))||decide (8<(b.fin.ins.args.length:Int)))))
def GI(y:cq):Bool:=decide (14<(y.args.length:Int))
def GJ(w:jf):Bool:=decide (20<(w.name.size:Int))
def DX(s:ByteArray):Bool:=decide (20<(s.size:Int))
def xB(b:bI):Bool:= !DW b&&(b.ins.all (λy=> !GI y)&&b.fin.aK.all (λw=> !GJ w))
def vX(f:az):Bool:= !GH f&&(f.signals.all (λs=> !DX s)&&f.blocks.all xB)
def vY(l:List az):Bool:=l.all vX&&(decide ((l.length:Int)<=10)||(decide (60<(l.length:Int))&&decide ((l.length:Int)<=63)))
def aaI{l:List az}(h:vY l=true):l.length<=63:=by
 unfold vY at h;simp[aJ,Bool.or_eq_true,decide_eq_true_eq] at h;omega
def Ip{α:Type}{p:α->Bool}{l:List α}{x:α}(hx:x∈l)(h:p x=false):l.all p=false:=by
 rw[Bool.eq_false_iff];intro ht;rw[bK.1 ht x hx] at h;cases h
def O9{l:List az}:aH prog 13 [bS l] (B (vY l)):=by
 refine nB (fo f13).he (.cons (kV l) .nil) λeS=>?_;have hlen:=(eS (bS l) oS).sl.1;unfold maxLen at hlen;refine bx (fo f13) (.cons (kV l) .nil) (Tr.s _) ?_;refine ws (SS ?_);refine af (aG (aA (SS ?_)))
 refine af (cw (λs=>(∃ nx,aP prog s ⟨aD [(0,bS l)],λ_=>none,nx⟩)/\l.all vX=true) (cT (α:=Nat×Nat) (λs=>⟨aD [(0,bS l),(3,I s.1)],λ_=>none,s.2⟩)
  (λs=>s.1<=l.length/\(l.take s.1).all vX=true) (λs=>l.length - s.1) (0,0) (au eH) ⟨Nat.zero_le _,rfl⟩ ?_) ?_)
 .rintro⟨t,nx⟩ ⟨ht,J⟩;dsimp only at ht J ⊢;refine aQ ?_;refine af ⟨_,rfl,λh=>?_,λh=>?_⟩
  .have VQ:t<l.length:=o2 h
   clear h;let⟨f,hf⟩:=o3 l t VQ
   have O:vX f=false->vY l=false:=λhb=>by
    rw[vY,Ip (bD hf) hb];rfl
   refine aA (bh ?_);refine dH (jV (cs':=aL f) rfl rfl l3 rfl) aM (eO t48 zz oS rfl) (af (br (gd (i:=nx) (l:=[(0,bS l),(3,I t),(4,.pt (aL f))]) l3 ⟨rfl,rfl,nh,aa⟩) (aG (al ?_))));refine aX ?_;refine aX ?_;refine ek ?_;refine cF rfl rfl (R7 rfl) (λhc=>⟨ak,V.h⟩) (ag ?_);have hd:GH f=_:=(or5 (decide (12<(f.blocks.length:Int))) (decide (20<(f.aj.length:Int))) (decide (10<(f.a6.length:Int))) (decide (8<(f.signals.length:Int))) (decide (130<(f.name.size:Int)))).symm;refine af (cM rfl (λh=>?_) λh=>cI (aG (aA ?_)))
   .have hb:GH f=true:=hd.trans h;refine aG (al (SS ?_));refine af (de (bP (aY (aC (d:=B false) rfl ?_))));rw[O (by rw[vX,hb];rfl)]
   have hH:GH f=false:=hd.trans h;clear hd h
   have Ts:f.blocks.length<=100000/\f.signals.length<=100000:=by
    unfold GH at hH;simp[Bool.or_eq_false_iff,decide_eq_false_iff_not] at hH;omega
   refine SS ?_
   refine af (cw (λs=>aP prog s ⟨aD [(0,bS l),(3,I t),(4,.pt (aL f))],λ_=>none,nx+1⟩/\f.signals.all (λs=> !DX s)=true) (cT (α:=Nat) (λk=>⟨aD [(0,bS l),(3,I t),(4,.pt (aL f)),(5,I k)],λ_=>none,nx+1⟩)
    (λk=>k<=f.signals.length/\(f.signals.take k).all (λs=> !DX s)=true) (λk=>f.signals.length - k) 0 (au eH) ⟨Nat.zero_le _,rfl⟩ ?_) ?_)
   .rintro k ⟨hk,hinv⟩;refine bh ?_;refine af ⟨_,rfl,λh=>?_,λh=>?_⟩
    .have ao:k<f.signals.length:=o2 h
     let⟨x,hx⟩:=o3 f.signals k ao
     refine ws (ek ?_);refine af (aB rfl (λhp=>al ?_) λhp=>cB ?_)
     .have hp:DX x=true:=hp;refine SS ?_;refine af (bj (bP (aY (bP (aY (aC (d:=B false) rfl ?_))))));rw[O (by rw[vX,Ip (p:=λs=> !DX s) (bD hx) (by rw[hp];rfl)];simp)]
     .have hp:DX x=false:=hp;show aE _ _ _ _ _ _ _ _ _;refine ax ?_;exact af (aW (k+1) (au eH) ⟨oG,A' hx hinv (by rw[hp];rfl)⟩ oG)
    .have M:¬ k<f.signals.length:=o2 h
     rw[cX oG] at hinv;exact⟨au eH,hinv⟩
   rintro s ⟨hg,X⟩;refine⟨_,hg,aA ?_⟩;refine SS ?_
   refine af (cT (α:=Nat×Nat) (λs=>⟨aD [(0,bS l),(3,I t),(4,.pt (aL f)),(6,I s.1)],λ_=>none,s.2⟩)
    (λs=>s.1<=f.blocks.length/\(f.blocks.take s.1).all xB=true) (λs=>f.blocks.length - s.1) (0,nx+1) (au eH) ⟨Nat.zero_le _,rfl⟩ ?_)
   rintro⟨k,ny⟩ ⟨hk,hinv⟩;dsimp only at hk hinv ⊢;refine bh ?_;refine af ⟨_,rfl,λh=>?_,λh=>?_⟩
   .have ao:k<f.blocks.length:=o2 h
    clear h;let⟨x,hx⟩:=o3 f.blocks k ao
    have U:xB x=false->vY l=false:=λhb=>O (by rw[vX,Ip (bD hx) hb];simp);refine aA (ek ?_);refine af (br (gd (i:=ny) (l:=[(0,bS l),(3,I t),(4,.pt (aL f)),(6,I k),(7,.pt (cE x))]) l3 ⟨rfl,rfl,rfl,rfl,nh,aa⟩) (aG (al ?_)));refine aX ?_;refine aX ?_;refine aQ ?_;refine cF rfl rfl (R7 rfl) (λhc=>⟨ak,V.h⟩) (cJ ?_);refine ag ?_;have hd:DW x=_:=(or5 (decide (8<(x.ins.length:Int))) (decide (8<(x.fin.aK.length:Int))) (decide (8<(x.fin.args.length:Int))) (decide (130<(x.fin.name.size:Int))) (decide (8<(x.fin.ins.args.length:Int)))).symm;refine af (cM rfl (λh=>?_) λh=>cI (aG (aA ?_)))
    .have hb:DW x=true:=hd.trans h;refine aG (al (SS ?_));refine af (de (bP (bP (aY (aC (d:=B false) rfl ?_)))));rw[U (by rw[xB,hb];rfl)]
    have hK:DW x=false:=hd.trans h;clear hd h
    have gh:x.ins.length<=100000/\x.fin.aK.length<=100000:=by
     unfold DW at hK;simp[Bool.or_eq_false_iff,decide_eq_false_iff_not] at hK;omega
    refine SS ?_
    refine af (cw (λs=>aP prog s ⟨aD [(0,bS l),(3,I t),(4,.pt (aL f)),(6,I k),(7,.pt (cE x))],λ_=>none,ny+1⟩/\x.ins.all (λy=> !GI y)=true) (cT (α:=Nat) (λj=>⟨aD [(0,bS l),(3,I t),(4,.pt (aL f)),(6,I k),(7,.pt (cE x)),(8,I j)],λ_=>none,ny+1⟩)
     (λj=>j<=x.ins.length/\(x.ins.take j).all (λy=> !GI y)=true) (λj=>x.ins.length - j) 0 (au eH) ⟨Nat.zero_le _,rfl⟩ ?_) ?_)
    .rintro j ⟨hj,C⟩;refine bh ?_;refine af ⟨_,rfl,λh=>?_,λh=>?_⟩
     .have cW:j<x.ins.length:=o2 h
      let⟨y,hy⟩:=o3 x.ins j cW
      refine ws (cJ ?_);refine af (aB rfl (λhp=>al ?_) λhp=>cB ?_)
      .have hp:GI y=true:=hp;refine SS ?_;refine af (bj (bP (aY (bP (bP (aY (aC (d:=B false) rfl ?_)))))));rw[U (by rw[xB,Ip (p:=λy=> !GI y) (bD hy) (by rw[hp];rfl)];simp)]
      .have hp:GI y=false:=hp;show aE _ _ _ _ _ _ _ _ _;refine ax ?_;exact af (aW (j+1) (au eH) ⟨oG,A' hy C (by rw[hp];rfl)⟩ oG)
     .have M:¬ j<x.ins.length:=o2 h
      rw[cX oG] at C;exact⟨au eH,C⟩
    rintro s ⟨hg,B7⟩;refine⟨_,hg,aA ?_⟩;refine SS ?_
    refine af (cT (α:=Nat) (λj=>⟨aD [(0,bS l),(3,I t),(4,.pt (aL f)),(6,I k),(7,.pt (cE x)),(9,I j)],λ_=>none,ny+1⟩)
     (λj=>j<=x.fin.aK.length/\(x.fin.aK.take j).all (λy=> !GJ y)=true) (λj=>x.fin.aK.length - j) 0 (au eH) ⟨Nat.zero_le _,rfl⟩ ?_)
    rintro j ⟨hj,C⟩;refine cz ?_;refine af ⟨_,rfl,λh=>?_,λh=>?_⟩
    .have cW:j<x.fin.aK.length:=o2 h
     let⟨y,hy⟩:=o3 x.fin.aK j cW
     refine ws (aX ?_);refine af (aB rfl (λhp=>al ?_) λhp=>cB ?_)
     .have hp:GJ y=true:=hp;refine SS ?_;refine af (bj (bP (bP (bP (aY (aC (d:=B false) rfl ?_))))));rw[U (by rw[xB,Ip (p:=λw=> !GJ w) (bD hy) (by rw[hp];rfl)];simp)]
     .have hp:GJ y=false:=hp;show aE _ _ _ _ _ _ _ _ _;refine ax ?_;exact af (aW (j+1) (au eH) ⟨oG,A' hy C (by rw[hp];rfl)⟩ oG)
    .have M:¬ j<x.fin.aK.length:=o2 h
     rw[cX oG] at C;show aE _ _ _ _ _ _ _ _ _;refine ax ?_;refine af (aW (k+1,ny+1) (au eH) ⟨oM,A' hx hinv ?_⟩ oM);rw[xB,hK,B7,C];rfl
   .have M:¬ k<f.blocks.length:=o2 h
    rw[cX oG] at hinv;show aE _ _ _ _ _ _ _ _ _;refine ax ?_;refine af (aW (t+1,ny) (au eH) ⟨oM,A' hf J ?_⟩ oM);rw[vX,hH,X,hinv];rfl
  .have M:¬ t<l.length:=o2 h
   rw[cX oG] at J;exact⟨⟨nx,au eH⟩,J⟩
 .rintro s ⟨⟨nx,hg⟩,J⟩
  have hb:vY l=(decide ((l.length:Int)<=10)||(decide (60<(l.length:Int))&&decide ((l.length:Int)<=63))):=by
   rw[vY,J,Bool.true_and]
  rw[hb];refine⟨_,hg,al ?_⟩;refine aX ?_;refine bh ?_;refine af (aC rfl ?_);show B _=B _;congr 1;cases decide ((l.length:Int)<=10)<;>cases decide ((60:Int)<l.length)<;>rfl
end Go.Abs
end
