/- Part 22. -/
import Derived.Test.YtnagfmlifobdiaaGreatDoorShareApart21
set_option linter.all false
set_option maxHeartbeats 0
set_option maxRecDepth 10000
section
open Go Go.Proofs List
namespace Go.Abs
open Go.Proofs.Tryz
def GK{l:List az}{s:ByteArray}:aH prog 161 [bS l,S s] (I (named l s)):=by
 unfold named;refine nB (fo f161).he (.cons (kV l) fp) λJ=>?_;have hlen:=(J (bS l) oS).sl.1;unfold maxLen at hlen;refine bx (fo f161) (.cons (kV l) fp) (Tr.s _) ?_;refine ws (SS ?_);refine af (aG (aA (SS ?_)))
 refine af (cw (λst=>(∃ nx,aP prog st ⟨aD [],λ_=>none,nx⟩)/\∀ (j:Nat) g,l[j]? =some g->(g.name.toList==s.toList)=false) (cT (α:=Nat) (λk=>⟨aD [(0,bS l),(1,S s),(5,I k)],λ_=>none,0⟩)
  (λk=>k<=l.length/\∀ j g,j<k->l[j]? =some g->(g.name.toList==s.toList)=false) (λk=>l.length - k) 0 (au eH) ⟨oG,λj g hj=>by omega⟩ ?_) ?_)
 .rintro k ⟨hk,C⟩;refine aQ ?_;refine af ⟨_,rfl,λh=>?_,λh=>?_⟩
  .have ao:k<l.length:=by simpa using h
   obtain⟨x,hx⟩:∃ x,l[k]? =some x:=⟨_,aO ao⟩
   refine ws (ek ?_);refine af (aB rfl (λhp=>al ?_) λhp=>cB ?_)
   .refine ag ?_;refine af (bj (bP (aY (aC rfl ?_))));rw[yj hx hp C];rfl
   .show aE _ _ _ _ _ _ _ _ _;refine ax ?_;refine af (aW (k+1) (au eH) ⟨oG,λj g hj hg=>?_⟩ oG);by_cases e:j=k
    .subst e;rw[hx] at hg;cases hg;exact hp
    .exact C j g oG hg
  .have M:¬ k<l.length:=by simpa using h
   exact⟨⟨0,au aa⟩,λj g hg=>C j g (by have:=(bQ.1 hg).1;omega) hg⟩
 .rintro st ⟨⟨nx,hg⟩,C⟩;refine⟨_,hg,al ?_⟩;refine SS ?_;refine af (aC rfl ?_);rw[Bf C];rfl
def JE{f:az}{l:List az}(hc:L1 f l)(uG:∀ b∈f.blocks,b.fin.kind=6-> -1<=b.fin.a):aH prog 121 [bS l,.agg (aL f)] (B (B8 l f)):=by
 have hl:=hc.len;have dd:=hc.NV;refine bx (fo f121) (.cons (kV l) (.cons (.agg (gS f)) .nil)) (.s _) ?_;refine aA (ag ?_);refine af (br (cH [(0,aL f,48)] eH (l:=[(0,bS l),(3,.pt (aL f))]) eH) (aG (aA ?_)));refine SS ?_
 refine af (cw (λs=>(∃ nx,aP prog s ⟨aD [],λ_=>none,nx⟩)/\∀ (j:Nat) y,f.blocks[j]? =some y->mI l f y.fin=true) (cT (α:=Nat×Nat) (λs=>⟨aD [(0,bS l),(3,.pt (aL f)),(5,I s.1)],λ_=>none,s.2⟩)
  (λs=>s.1<=f.blocks.length/\∀ j y,j<s.1->f.blocks[j]? =some y->mI l f y.fin=true) (λs=>f.blocks.length - s.1) (0,1) (au eH) ⟨Nat.zero_le _,λj y hj=>by omega⟩ ?_) ?_)
 .rintro⟨k,nx⟩ ⟨hk,hinv⟩;dsimp only at hk hinv ⊢;refine bh ?_;refine af ⟨_,rfl,λh=>?_,λh=>?_⟩
  .have ao:k<f.blocks.length:=by simpa using h
   clear h;obtain⟨b,hb⟩:∃ b,f.blocks[k]? =some b:=⟨_,aO ao⟩
   have lJ:=bD hb;have fI:=hc.args b lJ;have OT:=hc.a b lJ;have hcL:=uG b lJ
   have eD:mI l f b.fin=false->B8 l f=false:=λh=>by
    rw[B8,all_eq_false];exact⟨b,lJ,by simp[h]⟩
   have gZ:mI l f b.fin=true->∀ j y,j<k+1->f.blocks[j]? =some y->mI l f y.fin=true:=λh j y hj hy=>by
    by_cases e:j=k
    .subst e;rw[hb] at hy;cases hy;exact h
    .exact hinv j y oG hy
   refine aA (cJ ?_);refine af ⟨_,gd (i:=nx) (cs:=bq b.fin) (e:=57) r9 (l:=[(0,bS l),(3,.pt (aL f)),(5,I k),(6,.pt (bq b.fin))]) ⟨rfl,rfl,rfl,mV,aa⟩,aG (al ?_)⟩;generalize b.fin=x at*
   refine cJ ?_;refine af (cM rfl (λhp=>rh (yP ?_)) λhp=>cI (al ?_))
   .have C:mI l f x=true:=by
     rw[mI,ai];revert hp;by_cases h6:x.kind=6<;>by_cases h7:x.kind=7<;>simp[h6,h7]
    refine ax ?_;exact af (aW (k+1,_) (au eH) ⟨oM,gZ C⟩ oM)
   have Hv:x.kind=6\/x.kind=7:=by
    revert hp;by_cases h6:x.kind=6<;>by_cases h7:x.kind=7<;>simp[h6,h7]
   clear hp;have GK:=GK (l:=l) (s:=x.name);rcases Xb l x.name with⟨hn,hf⟩|⟨i,g,hn,hg,hf⟩
   .rw[hn] at GK;have ns:mI l f x=false:=by rw[mI,bi Hv,hf]
    rw[eD ns];refine bh ?_;refine af (aG (c6 iO ?_));refine ax ?_;(iterate 9 refine z λ_ _=>?_);refine ag ?_;(iterate 9 refine z λ_ _=>?_);refine SS ?_;refine bJ bM (wY (aG (al ?_)));refine SS ?_;exact af (de (bP (aY (aC rfl rfl))))
   rw[hn] at GK;have gh:=(bQ.1 hg).1;have OU:=bD hg;have AO:=hc.fl g OU;have J:mI l f x=xC f g x:=by rw[mI,bi Hv,hf]
   let⟨fI,wq⟩:=fI Hv;refine bh ?_;refine af (aG (c6 iO ?_));have rO:decide ((i:Int)<0)=false:=decide_eq_false oG;refine aX ?_;refine ag ?_;refine cF rfl rfl (abl rfl rfl) (λhc=>⟨ak,V.h⟩) (aX ?_);refine ax ?_;refine bJ bM (cM rfl (λhp=>aG (al ?_)) λhp=>cI (aG (aA ?_)))
   .have ns:mI l f x=false:=by
     rw[J];revert hp;unfold xC;by_cases h1:g.iter=(x.kind==7)<;>by_cases h2:g.args=x.args.length<;>simp[h1,h2]
    rw[eD ns];refine SS ?_;exact af (de (bP (aY (aC rfl rfl))))
   clear rO
   obtain⟨hgi,hga⟩:g.iter=(x.kind==7)/\g.args=x.args.length:=by
    revert hp;by_cases h1:g.iter=(x.kind==7)<;>by_cases h2:g.args=x.args.length<;>simp[h1,h2]
   clear hp;refine SS ?_
   refine af (cw (λs=>(∃ nx,aP prog s ⟨aD [(0,bS l),(3,.pt (aL f)),(5,I k),(6,.pt (bq x)),(7,I i)],λ_=>none,nx⟩)/\(range x.args.length).all (ue f g x.args)=true) (cT (α:=Nat)
    (λj=>⟨aD [(0,bS l),(3,.pt (aL f)),(5,I k),(6,.pt (bq x)),(7,I i),(8,I j)],λ_=>none,nx+1⟩)
    (λj=>j<=x.args.length/\∀ m,m<j->ue f g x.args m=true) (λj=>x.args.length - j) 0 (au eH) ⟨Nat.zero_le _,λm hm=>by omega⟩ ?_) ?_)
   .rintro j ⟨hj,bd⟩;refine bh ?_;refine af ⟨_,rfl,λh=>?_,λh=>?_⟩
    .have cW:j<x.args.length:=by simpa using h
     clear h;obtain⟨r,hr⟩:∃ r,x.args[j]? =some r:=⟨_,aO cW⟩
     have AV:=fI r (bD hr);obtain⟨rn,rfl⟩:∃ rn:Nat,r=rn:=⟨r.toNat,oG⟩
     obtain⟨u,hu⟩:∃ u,f.aj[rn]? =some u:=⟨_,aO oG⟩
     obtain⟨v,hv⟩:∃ v,g.aj[j]? =some v:=⟨_,aO oG⟩
     have Kg:ue f g x.args j=(u==v):=by
      unfold ue lE;simp[dU,hr,hu,hv]
     refine c6 iO (aX ?_);refine aX ?_;refine bJ bM (aB rfl (λhp=>al ?_) λhp=>cB ?_)
     .have ns:mI l f x=false:=by
       rw[J]
       have:(range x.args.length).all (ue f g x.args)=false:=by
        rw[all_eq_false];refine⟨j,mem_range.2 cW,?_⟩;rw[Kg];simpa using hp
       rw[xC,this];simp
      rw[eD ns];refine SS ?_;exact af (bj (bP (aY (bP (aY (aC rfl rfl))))))
     .show aE _ _ _ _ _ _ _ _ _;refine ax ?_;refine af (aW (j+1) (au eH) ⟨oG,λm hm=>?_⟩ oG);by_cases e:m=j
      .subst e;rw[Kg];simpa using hp
      .exact bd m oG
    .have bt:¬ j<x.args.length:=by simpa using h
     refine⟨⟨nx+1,au eH⟩,?_⟩;rw[bK];intro m hm;exact bd m (by have:=mem_range.1 hm;omega)
   rintro s ⟨⟨iK,Cx⟩,Jb⟩;refine⟨_,Cx,aG (c6 iO ?_)⟩;clear Cx;let⟨kd,a,M,to,ei,nm,ins,args,aK,U⟩:=x;dsimp only at*
   have hC:xC f g ⟨kd,a,M,to,ei,nm,ins,args,aK,U⟩=(!(kd==6&&(a != -1&&(lE f.aj a !=g.result)))&&(kd==6||f.blocks.all λc=>sW f g ⟨kd,a,M,to,ei,nm,ins,args,aK,U⟩ c.fin)):=by
    unfold xC;dsimp only;rw[Jb,hgi,hga];simp
   rw[hC] at J;clear hC Jb;rcases Hv with rfl|rfl
   .have J:mI l f ⟨6,a,M,to,ei,nm,ins,args,aK,U⟩= !(a != -1&&(lE f.aj a !=g.result)):=by rw[J];simp
    have OT:=OT rfl;have hcL:=hcL rfl;by_cases ha:a= -1
    .subst ha;have C:mI l f ⟨6, -1,M,to,ei,nm,ins,args,aK,U⟩=true:=J.trans oS;refine aX ?_;(iterate 12 refine z λ_ _=>?_);refine SS ?_;refine bJ bM (sT (cI (aG (al ?_))));refine ax ?_;refine af (wY (rh (yP ?_)));refine ax ?_;exact af (aW (k+1,_) (au eH) ⟨oM,gZ C⟩ oM)
    .obtain⟨an,rfl⟩:∃ an:Nat,a=an:=⟨a.toNat,oG⟩
     obtain⟨u,hu⟩:∃ u,f.aj[an]? =some u:=⟨_,aO oG⟩
     have xx:((an:Int) != -1)=true:=by simpa using ha
     have AT:lE f.aj (an:Int)=u:=by simp[lE,dU,hu]
     rw[xx,AT,Bool.true_and] at J;refine aX ?_;refine aX ?_;refine aQ ?_;refine bJ bM (cM rfl (λhp=>aG (al ?_)) λhp=>cI (aG (al ?_)))
     .rw[eD (J.trans (by simpa using hp))];refine SS ?_;exact af (de (bP (aY (aC rfl rfl))))
     .have C:mI l f ⟨6,(an:Int),M,to,ei,nm,ins,args,aK,U⟩=true:=J.trans (s0 hp);refine ax ?_;refine af (wY (rh (yP ?_)));refine ax ?_;exact af (aW (k+1,_) (au eH) ⟨oM,gZ C⟩ oM)
   .have J:mI l f ⟨7,a,M,to,ei,nm,ins,args,aK,U⟩=f.blocks.all λc=>sW f g ⟨7,a,M,to,ei,nm,ins,args,aK,U⟩ c.fin:=by rw[J];simp
    refine aQ ?_;(iterate 3 refine z λ_ _=>?_);refine ag ?_;(iterate 12 refine z λ_ _=>?_);refine SS ?_;refine bJ bM (sT (cI (aG (al ?_))));refine ax ?_;refine af (sT (cI (aA ?_)));refine SS ?_
    refine af (cT (α:=Nat×Nat)
     (λs=>⟨aD [(0,bS l),(3,.pt (aL f)),(5,I k),(6,.pt (bq ⟨7,a,M,to,ei,nm,ins,args,aK,U⟩)),(7,I i),(9,I s.1)],λ_=>none,s.2⟩)
     (λs=>s.1<=f.blocks.length/\∀ m y,m<s.1->f.blocks[m]? =some y->sW f g ⟨7,a,M,to,ei,nm,ins,args,aK,U⟩ y.fin=true) (λs=>f.blocks.length - s.1) (0,iK) (au eH) ⟨Nat.zero_le _,λm y hm=>by omega⟩ ?_)
    rintro⟨c,OV⟩ ⟨dB,bd⟩;dsimp only at dB bd ⊢;generalize hx:(⟨7,a,M,to,ei,nm,ins,args,aK,U⟩:Abs.End)=x at*
    have mo:x.a=a:=by rw[<- hx]
    refine bh ?_;refine af ⟨_,rfl,λh=>?_,λh=>?_⟩
    .have dB:c<f.blocks.length:=by simpa using h
     clear h;let⟨X,gQ⟩:=s3 f.blocks c dB
     have Pa:=bD gQ;have zA:=hc.b X Pa
     have gM:sW f g x X.fin=false->B8 l f=false:=λh=>eD (by
      rw[J,all_eq_false]
      exact⟨X,Pa,by simp[h]⟩)
     have cu:sW f g x X.fin=true->∀ m y,m<c+1->f.blocks[m]? =some y->sW f g x y.fin=true:=λh m y hm hy=>by
      by_cases e:m=c
      .subst e;rw[gQ] at hy;cases hy;exact h
      .exact bd m y oG hy
     refine aA (cJ ?_);refine af ⟨_,gd (i:=OV) (cs:=bq X.fin) (e:=57) r9 (l:=[(0,bS l),(3,.pt (aL f)),(5,I k),(6,.pt (bq x)),(7,I i),(9,I c),(10,.pt (bq X.fin))]) ⟨rfl,rfl,rfl,rfl,rfl,rfl,mV,aa⟩,c6 iO ?_⟩;generalize X.fin=y at*
     have hN:sW f g x y= !(y.kind==8&&(y.a==x.a&&(lE f.aj y.b !=g.result))):=rfl;by_cases k8:y.kind=8
     .have zA:=zA k8;have hN:sW f g x y= !(y.a==x.a&&(lE f.aj y.b !=g.result)):=by rw[hN,k8];rfl
      let⟨kd,a',bb',to',azL,nm',azM,gf,azt,azN⟩:=y;dsimp only at*
      subst k8;obtain⟨bn,rfl⟩:∃ bn:Nat,bb'=bn:=⟨bb'.toNat,oG⟩
      obtain⟨u,hu⟩:∃ u,f.aj[bn]? =some u:=⟨_,aO oG⟩
      have AT:lE f.aj (bn:Int)=u:=by simp[lE,dU,hu]
      rw[AT] at hN;by_cases hea:a'=x.a
      .have iy:(a'==x.a)=true:=by simpa using hea
       rw[iy,Bool.true_and] at hN;refine aX ?_;refine aX ?_;refine cz ?_;refine bJ bM (aB rfl (λhp=>al ?_) λhp=>cB ?_)
       .rw[gM (hN.trans (by simpa using hp))];refine SS ?_;exact af (bj (bP (bP (aY (aC rfl rfl)))))
       .have C:sW f g x _=true:=hN.trans (by simpa using hp);show aE _ _ _ _ _ _ _ _ _;refine ax ?_;exact af (aW (c+1,_) (au eH) ⟨oM,cu C⟩ oM)
      .have iy:(a'==x.a)=false:=by simpa using hea
       have C:sW f g x _=true:=hN.trans (by simp[iy]);refine aX ?_;refine ag ?_;(iterate 12 refine z λ_ _=>?_);refine SS ?_;refine bJ bM (aB rfl (λh=>oH) λhp=>cB ?_);show aE _ _ _ _ _ _ _ _ _;refine ax ?_;exact af (aW (c+1,_) (au eH) ⟨oM,cu C⟩ oM)
     .have iy:(y.kind==8)=false:=by simpa using k8
      have C:sW f g x _=true:=hN.trans (by simp[iy]);refine aQ ?_;(iterate 5 refine z λ_ _=>?_);refine ag ?_;(iterate 12 refine z λ_ _=>?_);refine SS ?_;refine bJ bM (aB rfl (λh=>oH) λhp=>cB ?_);show aE _ _ _ _ _ _ _ _ _;refine ax ?_;exact af (aW (c+1,_) (au eH) ⟨oM,cu C⟩ oM)
    .have bt:¬ c<f.blocks.length:=by simpa using h
     have C:mI l f x=true:=by
      rw[J,bK];intro zQ hz;let⟨m,hm⟩:=cV hz;exact bd m zQ (by have:=(bQ.1 hm).1;omega) hm
     show aE _ _ _ _ _ _ _ _ _;refine ax ?_;exact af (aW (k+1,_) (au eH) ⟨oM,gZ C⟩ oM)
  .have bt:¬ k<f.blocks.length:=by simpa using h
   exact⟨⟨nx,au aa⟩,λj y hy=>hinv j y (by have:=(bQ.1 hy).1;omega) hy⟩
 .rintro s ⟨⟨nx,hg⟩,bd⟩
  have hr:B8 l f=true:=by
   rw[B8,bK];intro b hb;let⟨j,hj⟩:=cV hb;exact bd j b hj
  rw[hr];refine⟨_,hg,al ?_⟩;refine SS ?_;exact af (aC rfl rfl)
end Go.Abs
end
