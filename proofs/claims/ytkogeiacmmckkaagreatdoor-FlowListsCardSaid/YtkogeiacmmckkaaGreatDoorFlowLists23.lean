/- Part 23. -/
import Derived.Test.YtkogeiacmmckkaaGreatDoorFlowLists18
import Derived.Test.YtkogeiacmmckkaaGreatDoorFlowLists19
import Derived.Test.YtkogeiacmmckkaaGreatDoorFlowLists21
import Derived.Test.YtkogeiacmmckkaaGreatDoorFlowLists22
set_option linter.all false
set_option maxHeartbeats 60000000
set_option maxRecDepth 10000
open List(range)
section
open Go Go.Abs Go.Proofs Go.Argus
namespace Go.Argus
open Go.Proofs.Tryz.K (nextR)
@[simp] theorem Pt (p : Bool × D) : (ot p).length = 2 := rfl
theorem Xa{f:bd}(h:nZ f=true):∀ b∈f.blocks,jG f b.fin=true:=fun b hb=>by
 unfold nZ at h;simp only[ay] at h;obtain⟨_,_,_,C,_⟩:=h;obtain⟨k,hk⟩:=dY hb;have:=b7.1 C k (by simpa using(bZ.1 hk).1);unfold kq at this;simp only[getD_some hk,ay] at this;exact this.1
end Go.Argus
namespace Go.Proofs.Tryz.K
theorem BI{f:bd}(hs:CY f)(hw:∀ b∈f.blocks,b.fin.aJ.length<=10):ax prog 17 [.agg (a6 f)] (I (vU f)):=by
 rw[<- Y4];have BR:=BR hs hw;have HO:KV f=if tV f=true then(if(range f.blocks.length).all (pg f (iq f.blocks f.args.toNat))=true then 0 else 81) else 80:=rfl
 refine bP ahX (.cons (.agg (oY f)) .nil) (Tr.s _) ?_;rw[ahY,HO];clear HO;refine aE ?_;refine af ?_;refine ab (bj (cr [(0,a6 f,26)] eH (l:=[(1,.pt (a6 f))]) eH) (al ?_));cases hf:tV f with
 |false=>
  rw[hf] at BR;refine SS ?_;refine cl BR ?_;refine SS ?_;refine ab (aV (al ?_));refine af ?_;refine ab (yx ?_);refine aV (al ?_);refine SS ?_;exact ab (fN (ap rfl rfl))
 |true=>
 rw[hf] at BR;rw[if_pos rfl];rw[O2] at hf;have he:=Xa hf;have O:=T7 hf;have BT:=BT O hw;have hR:=O.ok.ag;have hS:=O.sl;have hN1:=O.ok.BJ;have xq:=xq (f:=f) rfl oG hw (fun b hb t ht=>by rw[(O.ed b hb).2] at ht;exact(O.ok.bJ b hb).to t ht)
 have V4:∀ k,k<f.blocks.length->(o0 f.blocks)[k]? =some (cw f.blocks f.blocks.length k):=fun k hk=>by
  rw[<- PK he];simp[o0,hk]
 have Ig:(o0 f.blocks).length=f.blocks.length:=by simp[o0]
 generalize o0 f.blocks=L at xq V4 Ig
 have V5:CM f (iq f.blocks f.args.toNat)=.sl ((eW f.ag.length (f.ag.length+f.aU.length) f.blocks.length (iq f.blocks f.args.toNat)).flatMap ot) (eW f.ag.length (f.ag.length+f.aU.length) f.blocks.length (iq f.blocks f.args.toNat)).length:=by
  unfold CM;rw[vA];rfl
 rw[V5] at BT;clear V5;generalize iq f.blocks f.args.toNat=RR at BT ⊢;have N5:∀ k,k<f.blocks.length->(eW f.ag.length (f.ag.length+f.aU.length) f.blocks.length RR)[k]? =some (DK (cA f.ag.length (f.ag.length+f.aU.length) RR k)):=fun k hk=>zO hk;have hCl:=vA f.ag.length (f.ag.length+f.aU.length) f.blocks.length RR;generalize eW f.ag.length (f.ag.length+f.aU.length) f.blocks.length RR=CP at BT N5 hCl;refine SS ?_;refine cl BR ?_;refine SS ?_;refine ab (aV (al ?_));refine af ?_;refine ab (yw (dL (al ?_)));refine SS ?_;refine cl BT ?_;refine SS ?_;refine er ?_;refine SS ?_;refine cl xq ?_;refine SS ?_;refine ab (aV (aE ?_));refine SS ?_
 refine ab (dA (fun s=>(∃ N,aR prog s ⟨aH [],fun _=>none,N⟩)/\(range f.blocks.length).all (pg f RR)=true) (eX (α:=Nat×Nat) (fun q=>⟨aH [(1,.pt (a6 f)),(4,.sl (CP.flatMap ot) CP.length),(5,di L),(6,I q.1)],fun _=>none,q.2⟩)
  (fun q=>q.1<=f.blocks.length/\(range q.1).all (pg f RR)=true) (fun q=>f.blocks.length - q.1) (0,1) (hP eH) ⟨Nat.zero_le _,rfl⟩ ?_) ?_)
 .rintro⟨k,N⟩ ⟨hk,bT⟩;dsimp only at hk bT ⊢;refine bH ?_;refine ab ⟨_,rfl,fun h=>?_,fun h=>?_⟩
  .have aj:k<f.blocks.length:=by simpa using h
   have hx:f.blocks[k]? =some f.blocks[k]:=bB aj;have dz:f.blocks[k]∈f.blocks:=df _;have BU:=N5 k aj;have pz:pg f RR k=false->(if(range f.blocks.length).all (pg f RR)=true then(0:Int) else 81)=81:=fun hq=>by rw[nU aj hq];rfl
   have xx:pg f RR k=((cA f.ag.length (f.ag.length+f.aU.length) RR k).any||((range f.blocks[k].ins.length).all (yY f RR k f.blocks[k].ins (cA f.ag.length (f.ag.length+f.aU.length) RR k))&&qF (eY f.ag.length f.blocks[k].ins (cA f.ag.length (f.ag.length+f.aU.length) RR k)) (cN f.blocks[k].fin))):=by
    unfold pg;simp only[getD_some hx]
   have cF:(cA f.ag.length (f.ag.length+f.aU.length) RR k).is.length=f.ag.length+f.aU.length:=IY;generalize f.blocks[k]=x at hx dz xx;generalize cA f.ag.length (f.ag.length+f.aU.length) RR k=c at BU xx cF;obtain⟨ca,C⟩:=c;refine aV (al ?_);cases ca with
   |true=>
    refine bH ?_;refine ab (dI rfl (fun h=>sd (Ay ?_)) fun h=>oH);refine aB ?_;exact ab (bD (k+1,N) (hP eH) ⟨oM,k9 bT xx⟩ oM)
   |false=>
   refine bH ?_;refine ab (dI rfl (fun h=>oH) fun h=>dL (aE ?_));rw[show({ any:=false,is:=C }:Cert).any=false from rfl,Bool.false_or] at xx;refine cY ?_;refine ab (bj (bc (l:=[(1,.pt (a6 f)),(4,.sl (CP.flatMap ot) CP.length),(5,di L),(6,I k),(7,.rp N 0)]) (ml:=[(N,.cells (cC ⟨false,C⟩) 99)]) eH ⟨au _ _ _,trivial⟩) (al ?_));refine fS ?_;have fI:=(O.ok.bJ x dz).len;have ahZ:=O.ins x dz;have yR:=O.Ia k x hx;have hAg:=V4 k aj;have ah0:=IZ (fun b hb t ht=>((O.ok.bJ b hb).to t ht).1) f.blocks.length k;have afH:=O.ok.bJ;have J:∀ y q,pj f RR k y q=pj f RR k y q:=fun _ _=>rfl;refine ab (aV (aE ?_));refine SS ?_
   refine ab (dA (fun s=>∃ N',aR prog s ⟨aH [(1,.pt (a6 f)),(4,.sl (CP.flatMap ot) CP.length),(5,di L),(6,I k),(7,.rp N 0)],aby [(N,.cells (cC (eY f.ag.length x.ins ⟨false,C⟩)) 99)],N'⟩/\N<N'/\(range x.ins.length).all (yY f RR k x.ins ⟨false,C⟩)=true) (eX (α:=Nat×Nat) (fun j=>⟨aH [(1,.pt (a6 f)),(4,.sl (CP.flatMap ot) CP.length),(5,di L),(6,I k),(7,.rp N 0),(8,iL x.ins),(9,I j.1)],aby [(N,.cells (cC (eY f.ag.length (x.ins.take j.1) ⟨false,C⟩)) 99)],j.2⟩)
    (fun j=>j.1<=x.ins.length/\N<j.2/\(range j.1).all (yY f RR k x.ins ⟨false,C⟩)=true) (fun j=>x.ins.length - j.1) (0,N+1) (bc eH ⟨au _ _ _,trivial⟩) ⟨Nat.zero_le _,Nat.lt_succ_self _,rfl⟩ ?_) ?_)
   .rintro⟨j,M⟩ ⟨hj,hM,tD⟩;dsimp only at hj hM tD ⊢;have bt:∀ y,x.ins[j]? =some y->eY f.ag.length (x.ins.take (j+1)) ⟨false,C⟩=uy f.ag.length (eY f.ag.length (x.ins.take j) ⟨false,C⟩) y:=fun y hy=>pT hy;have kM:j=x.ins.length->eY f.ag.length (x.ins.take j) ⟨false,C⟩=eY f.ag.length x.ins ⟨false,C⟩:=fun e=>by rw[e,List.take_length]
    have xu:=(B' f.ag.length (x.ins.take j) ⟨false,C⟩).trans cF;have bU:yY f RR k x.ins ⟨false,C⟩ j=(opsV f.ag.length (eY f.ag.length (x.ins.take j) ⟨false,C⟩) (x.ins.getD j ez)&&Bf f RR k (x.ins.getD j ez)):=rfl;generalize eY f.ag.length (x.ins.take j) ⟨false,C⟩=d at bt kM xu bU;refine a7 ?_;refine ab ⟨_,rfl,fun h=>?_,fun h=>?_⟩
    .have dZ:j<x.ins.length:=by simpa using h
     have hy:x.ins[j]? =some x.ins[j]:=bB dZ;have bt:=bt _ hy;rw[getD_some hy] at bU;have zG:=ahZ _ (df dZ);have rY:=yR j _ hy;have rh:yY f RR k x.ins ⟨false,C⟩ j=false->(if(range f.blocks.length).all (pg f RR)=true then(0:Int) else 81)=81:=fun hq=>pz (by rw[xx,nU dZ hq];rfl);generalize x.ins[j]=y at hy bt bU zG rY;refine aE ?_;refine cY ?_;refine ab (bj (tM (i:=M) (l:=[(1,.pt (a6 f)),(4,.sl (CP.flatMap ot) CP.length),(5,di L),(6,I k),(7,.rp N 0),(8,iL x.ins),(9,I j),(10,.pt (bF y))]) (ml:=[(N,.cells (cC d) 99)]) (au _ _ _) ⟨rfl,rfl,rfl,rfl,QF oG,rfl,rfl,nt,trivial⟩ ⟨Ae oG (aM oG (aM oG (au _ _ _))) rfl,trivial⟩) (fO (fun s=>aR prog s ⟨aH [(1,.pt (a6 f)),(4,.sl (CP.flatMap ot) CP.length),(5,di L),(6,I k),(7,.rp N 0),(8,iL x.ins),(9,I j),(10,.pt (bF y))],aby [(N,.cells (cC d) 99)],M+1⟩/\opsV f.ag.length d y=true) ?_ ?_))
     .have c7:=(afH x dz).ins y (cX hy);clear bt rY;obtain⟨U,yt,ya,yb,yn,yl⟩:=y;have eD:opsV f.ag.length d ⟨U,yt,ya,yb,yn,yl⟩=((U !=17||d.is.getD ((f.ag.length:Int)+yn).toNat false)&&qF d (cL ⟨U,yt,ya,yb,yn,yl⟩)):=rfl;have xm:=xm (x:=⟨U,yt,ya,yb,yn,yl⟩) (fun ho=>by have:=c7.ar ho;dsimp only at this ⊢;omega)
      have rZ:=rZ (c:=d) (rs:=cL ⟨U,yt,ya,yb,yn,yl⟩) (fun r hr=>by
       obtain⟨i,h1,h2⟩:=zG.2.r r hr
       exact⟨i,oG,h2⟩)
      generalize qF d (cL ⟨U,yt,ya,yb,yn,yl⟩)=v at rZ eD;generalize cL ⟨U,yt,ya,yb,yn,yl⟩=rs at rZ xm;have Du:opsV f.ag.length d ⟨U,yt,ya,yb,yn,yl⟩=false->I 81=I (if(range f.blocks.length).all (pg f RR)=true then 0 else 81):=fun hq=>by rw[rh (by rw[bU,hq];rfl)]
      refine eF Y5 ?_;by_cases ij:U=17
      .obtain⟨i,hi,e⟩:=zG.2.s ij;dsimp only at e;subst e;have V6:d.is[f.ag.length+i]? =some d.is[f.ag.length+i]:=bB oG;have iO:(U==17)=true:=by simp[ij]
       rw[show((f.ag.length:Int)+(i:Int)).toNat=f.ag.length+i by omega,getD_some V6,show(U !=17)=false by simp[ij],Bool.false_or] at eD;generalize d.is[f.ag.length+i]=b at V6 eD;have hqn:({ op:=U,to:=yt,a:=ya,b:=yb,n:=(i:Int),args:=yl }:bS).n=(i:Int):=rfl;refine SN9 ?_;refine af ?_;refine bQ rfl rfl (S9 rfl rfl oG) (fun hc=>⟨ak,rfl⟩) ?_;refine bH ?_;refine bQ rfl rfl (dP rfl (au _ _ _) V.h V.h rfl) (fun hc=>⟨ak,(dQ V.h V.h (by first|(simp;done)|omega|exact bg rfl))⟩) ?_;refine SS ?_;refine gc xm ?_;refine gc rZ ?_;refine af ?_;refine bX bY (yC rfl (fun hp=>al ?_) fun hp=>bq ⟨bc eH ⟨au _ _ _,trivial⟩,by rw[eD];revert hp;cases b<;>cases v<;>simp⟩);refine SS ?_;exact ab (bh (aY (dp (aY (dp (aY (ap rfl (Du (by rw[eD];revert hp;cases b<;>cases v<;>simp)))))))))
      .have iO:(U==17)=false:=by simp[ij]
       rw[show(U !=17)=true by simp[ij],Bool.true_or,Bool.true_and] at eD;refine a7 ?_;(iterate 11 refine z fun _ _=>?_);refine af ?_;refine bQ rfl rfl (dP rfl (au _ _ _) V.h V.h rfl) (fun hc=>⟨ak,(dQ V.h V.h (by first|(simp;done)|omega|exact bg rfl))⟩) ?_;refine SS ?_;refine gc xm ?_;refine gc rZ ?_;refine af ?_;refine bX bY (yC rfl (fun hp=>al ?_) fun hp=>bq ⟨bc eH ⟨au _ _ _,trivial⟩,by rw[eD];revert hp;cases v<;>simp⟩);refine SS ?_;exact ab (bh (aY (dp (aY (dp (aY (ap rfl (Du (by rw[eD];revert hp;cases v<;>simp)))))))))
     rintro s ⟨hg,UX⟩;rw[UX,Bool.true_and] at bU;clear UX;have qG:=qG (x:=y)
     have hp:DI d.is.length (dB y):=by
      rcases zG.1.w with e|⟨i,h1,h2⟩
      .exact .inl e
      .exact .inr ⟨i,oG,h2⟩
     have kw:=jZ (c:=d) oG hp;have zz:=(Ff d (dB y)).trans xu
     have kv:y.op=18->ax prog 67 [.agg (cC (jt d (dB y))),I ((f.ag.length:Int)+y.n)] (.agg (cC (jt (jt d (dB y)) ((f.ag.length:Int)+y.n)))):=fun e=>jZ oG (by
      obtain⟨i,h1,h2⟩:=zG.1.s e
      exact .inr ⟨f.ag.length+i,oG,by rw[h2];omega⟩)
     have jV:y.op=18->0<=y.n/\y.n<=2000:=fun e=>by
      obtain⟨i,h1,h2⟩:=zG.1.s e;omega
     have rm:=bt;unfold uy at rm;generalize jt d (dB y)=d1 at kw zz kv rm;generalize dB y=w at qG kw;have jZ:=kw;refine⟨_,hg,tI Y6 ?_⟩;clear hg;refine af ?_;refine cl qG ?_;refine cl jZ ?_;refine SS ?_;refine bX bY (bj (bc (l:=[(1,.pt (a6 f)),(4,.sl (CP.flatMap ot) CP.length),(5,di L),(6,I k),(7,.rp N 0),(8,iL x.ins),(9,I j),(10,.pt (bF y))]) (ml:=[(N,.cells (cC d1) 99)]) eH ⟨au _ _ _,trivial⟩) (fO (fun s=>aR prog s ⟨aH [(1,.pt (a6 f)),(4,.sl (CP.flatMap ot) CP.length),(5,di L),(6,I k),(7,.rp N 0),(8,iL x.ins),(9,I j),(10,.pt (bF y))],aby [(N,.cells (cC (eY f.ag.length (x.ins.take (j+1)) ⟨false,C⟩)) 99)],M+1⟩) (al ?_) ?_))
     .refine aB ?_;refine ab (yC rfl (fun eh=>ln ?_) fun eh=>bq ?_)
      .have eh:y.op=18:=by simpa using eh
       rw[if_pos eh] at rm;have jZ:=kv eh;have oI:=jV eh;refine fS ?_;refine cl jZ ?_;refine SS ?_;refine ab (bc eH ⟨?_,trivial⟩);rw[rm];exact au _ _ _
      .have eh:¬ y.op=18:=by simpa using eh
       rw[if_neg eh] at rm;refine bc eH ⟨?_,trivial⟩;rw[rm];exact au _ _ _
     intro s hg;refine⟨_,hg,aE ?_⟩;clear hg rm kw kv zz jZ qG hp jV bt;refine SS ?_;generalize zr:eY f.ag.length (x.ins.take (j+1)) ⟨false,C⟩=dj
     refine ab (eX (α:=Nat×Nat) (fun q=>⟨aH [(1,.pt (a6 f)),(4,.sl (CP.flatMap ot) CP.length),(5,di L),(6,I k),(7,.rp N 0),(8,iL x.ins),(9,I j),(10,.pt (bF y)),(11,I q.1)],aby [(N,.cells (cC dj) 99)],q.2⟩)
      (fun q=>q.1<=y.args.length/\N<q.2/\(q.1=0\/y.op=19)/\(range q.1).all (pj f RR k y)=true) (fun q=>y.args.length - q.1) (0,M+1) (bc eH ⟨au _ _ _,trivial⟩) ⟨Nat.zero_le _,oM,.inl rfl,rfl⟩ ?_)
     rintro⟨q,M2⟩ ⟨hq,Ik,ah1,EG⟩;dsimp only at hq Ik ah1 EG ⊢;by_cases fe:y.op=19
     .have iO:(y.op==19)=true:=by simp[fe]
      have V7:cx y=true:=by simp[cx,fe]
      have rY:=(rY V7).1;have Il:Bf f RR k y=(range y.args.length).all (pj f RR k y):=by unfold Bf;rw[V7];rfl
      have Ep:∀ p∈cw f.blocks f.blocks.length k,∃ X:Nat,p=X/\X<f.blocks.length:=fun p hp=>by
       obtain⟨b,h1,h2,_⟩:=IU.1 hp;exact⟨b,h1,h2⟩
      have J:∀ q,pj f RR k y q=((cA f.ag.length (f.ag.length+f.aU.length) RR ((cw f.blocks f.blocks.length k).getD q 0).toNat).any||(mF (f.blocks.getD ((cw f.blocks f.blocks.length k).getD q 0).toNat lS).fin k (eY f.ag.length (f.blocks.getD ((cw f.blocks f.blocks.length k).getD q 0).toNat lS).ins (cA f.ag.length (f.ag.length+f.aU.length) RR ((cw f.blocks f.blocks.length k).getD q 0).toNat))).is.getD (y.args.getD q 0).toNat false):=fun q=>rfl;have ah2:=zG.2.p fe;have NK:=IV hw f.blocks.length k;generalize cw f.blocks f.blocks.length k=A at rY Ep J hAg NK;by_cases BS:q<y.args.length
      .have uF:decide ((q:Int)<(y.args.length:Int))=true:=decide_eq_true oG;refine cT ?_;refine bQ rfl rfl (KS rfl rfl uF) (fun hc=>⟨ak,rfl⟩) ?_;refine SS ?_;refine ab ⟨_,rfl,fun h=>?_,fun h=>oH⟩;have J:=J q;have V8:A[q]? =some A[q]:=bB oG;obtain⟨X,e1,Er⟩:=Ep _ (df (h:=by omega):A[q]∈A);rw[e1] at V8;clear e1;rw[getD_some V8,dX] at J;have zE:=N5 X Er;have MV:(cA f.ag.length (f.ag.length+f.aU.length) RR X).is.length=f.ag.length+f.aU.length:=IY;generalize cA f.ag.length (f.ag.length+f.aU.length) RR X=cp at zE J MV;obtain⟨pa,pi⟩:=cp;refine ws ?_;refine cT ?_;refine ab (aV (al ?_));cases pa with
       |true=>
        refine bH ?_;refine ab (dI rfl (fun h=>sd (Ay ?_)) fun h=>oH);refine aB ?_;exact ab (bD (q+1,M2) (bc eH ⟨au _ _ _,trivial⟩) ⟨oM,Ik,.inr fe,k9 EG J⟩ oM)
       |false=>
       refine bH ?_;refine ab (dI rfl (fun h=>oH) fun h=>dL (tI Y7 ?_));have tB:f.blocks[X]? =some f.blocks[X]:=bB Er;have py:f.blocks[X]∈f.blocks:=df _;rw[getD_some tB] at J;generalize f.blocks[X]=xp at tB py J;have vu:=vu (c:=⟨false,pi⟩) tB MV oG (fun y hy=>(O.ins xp py y hy).1) (by have:=(O.ok.bJ xp py).len;omega);have mf:=(B' f.ag.length xp.ins ⟨false,pi⟩).trans MV;generalize eY f.ag.length xp.ins ⟨false,pi⟩=pc at vu J mf
       have xv:=xv (c:=pc) (to:=(k:Int)) tB (by have:=hw xp py;omega) oG (by
        rcases O.wr xp py with e|⟨r,h1,h2⟩
        .exact .inl e
        .exact .inr ⟨r,oG,h2⟩)
       have zk:=(PG xp.fin k pc).trans mf;generalize mF xp.fin k pc=zQ at xv J zk;have V9:y.args[q]? =some y.args[q]:=bB BS;obtain⟨ri,NL,e2⟩:=ah2 _ (df BS);rw[e2] at V9;clear e2;have D1:zQ.is[ri]? =some zQ.is[ri]:=bB oG;rw[getD_some V9,dX,getD_some D1] at J;generalize zQ.is[ri]=bz at D1 J;have J:pj f RR k y q=bz:=J;refine SN9 ?_;refine cl vu ?_;refine cl xv ?_;refine af ?_;refine bX bY (bj (tM (i:=M2) (l:=[(1,.pt (a6 f)),(4,.sl (CP.flatMap ot) CP.length),(5,di L),(6,I k),(7,.rp N 0),(8,iL x.ins),(9,I j),(10,.pt (bF y)),(11,I q),(13,.pt (cC zQ))]) (ml:=[(N,.cells (cC dj) 99)]) (au _ _ _) ⟨rfl,rfl,rfl,rfl,QF oG,rfl,rfl,rfl,rfl,nt,trivial⟩ ⟨Ae oG (aM oG (aM oG (au _ _ _))) rfl,trivial⟩) (eF Y8 ?_));refine cT ?_;refine af ?_;refine bX bY (yC rfl (fun hp=>al ?_) fun hp=>eC ?_)
       .have N6:bz=false:=by simpa using hp
        refine SS ?_;refine ab (bh (dp (dp (aY (dp (aY (ap (d:=I 81) rfl ?_)))))));rw[rh (by rw[bU,Il,nU BS (by rw[J,N6])])]
       .have N6:bz=true:=by simpa using hp
        refine aB ?_;exact ab (bD (q+1,M2+1) (bc eH ⟨au _ _ _,trivial⟩) ⟨oM,oM,.inr fe,k9 EG (by rw[J,N6])⟩ oM)
      .have uF:decide ((q:Int)<(y.args.length:Int))=false:=decide_eq_false oG;have:q=y.args.length:=by omega
       subst this;rw[<- Il] at EG;refine cT ?_;refine bQ rfl rfl (KS rfl rfl uF) (fun hc=>⟨ak,rfl⟩) ?_;refine SS ?_;refine ab ⟨_,rfl,fun h=>oH,fun h=>?_⟩;show aw _ _ _ _ _ _ _ _ _;refine aB ?_;refine ab (bD (j+1,M2) (bc eH ⟨?_,trivial⟩) ⟨oM,Ik,k9 tD (by rw[bU,EG])⟩ oM);dsimp only;rw[zr];exact au _ _ _
     .have iO:(y.op==19)=false:=by simp[fe]
      have Il:Bf f RR k y=true:=by unfold Bf cx;simp[fe]
      refine a7 ?_;(iterate 5 refine z fun _ _=>?_);refine SS ?_;refine ab ⟨_,rfl,fun h=>oH,fun h=>?_⟩;show aw _ _ _ _ _ _ _ _ _;refine aB ?_;refine ab (bD (j+1,M2) (bc eH ⟨?_,trivial⟩) ⟨oM,Ik,k9 tD (by rw[bU,Il])⟩ oM);dsimp only;rw[zr];exact au _ _ _
    .have bL:¬ j<x.ins.length:=by simpa using h
     have:j=x.ins.length:=by omega
     subst this;rw[<- kM rfl];exact⟨M,bc eH ⟨au _ _ _,trivial⟩,hM,tD⟩
   .rintro s ⟨M,hg,hM,oR⟩;rw[oR,Bool.true_and] at xx;have xu:=(B' f.ag.length x.ins ⟨false,C⟩).trans cF;refine⟨_,hg,eF Y9 ?_⟩;generalize eY f.ag.length x.ins ⟨false,C⟩=d at xx xu;have Ic:=Ic (x:=x.fin) (fun h5 ho=>by have:=(O.ok.ahp x dz h5).ar ho;omega) (fun h1=>by have:=(O.ok.ends x dz).fin.a2 (by rcases h1 with e|e<;>simp[aI,e]);omega)
    have rZ:=rZ (c:=d) (rs:=cN x.fin) (fun r hr=>by
     obtain⟨i,h1,h2⟩:=O.rd x dz r hr
     exact⟨i,oG,h2⟩)
    rw[<- xx] at rZ;generalize cN x.fin=rs at Ic rZ;refine fS ?_;refine cl Ic ?_;refine cl rZ ?_;refine SS ?_;refine bX bY (yC rfl (fun hp=>?_) fun hp=>eC ?_)
    .refine ws ?_;refine SS ?_;refine ab (bh (dp (aY (ap (d:=I 81) rfl ?_))));rw[pz (by simpa using hp)]
    .refine aB ?_;exact ab (bD (k+1,M) (hP eH) ⟨oM,k9 bT (by simpa using hp)⟩ oM)
  .have bL:¬ k<f.blocks.length:=by simpa using h
   have:k=f.blocks.length:=by omega
   subst this;exact⟨⟨N,hP (l:=[]) trivial⟩,bT⟩
 .rintro s ⟨⟨N,hg⟩,bT⟩;refine⟨_,hg,al ?_⟩;refine SS ?_;refine ab (ap (d:=I 0) rfl ?_);rw[bT];rfl
end Go.Proofs.Tryz.K
namespace Go.Argus
abbrev agU(l:List bd):D:=.sl (l.flatMap a6) l.length
theorem aiJ(l:List bd):Tr (agU l):=.sl (.flat oY)
def aiL:List D:=[S ⟨#[]⟩,B false,I 0,U8 0,.z,.z,.z,.z]
def named(l:List bd)(name:ByteArray):Int:=s8 (fun g=>g.name.toList==name.toList) l
def findF(l:List bd)(name:ByteArray):Option bd:=l.find? fun g=>g.name.toList==name.toList
def aje:Option bd->D
 |some g=>.bp [.agg (a6 g),B true]
 |none=>.bp [.agg aiL,B false]
def aiW(l:List bd):Bool:=decide ((l.length:Int)<=6)&&l.all vT
theorem ajI{l:List bd}(h:aiW l=true):l.length<=6:=by
 unfold aiW at h;rw[ay] at h;have:=of_decide_eq_true h.1;omega
theorem ajW{l:List bd}(h:aiW l=true):∀ f∈l,vT f=true:=by
 unfold aiW at h;rw[ay] at h;exact b7.1 h.2
theorem ajJ{α:Type}{p:α->Bool}:∀ {l:List α},(!l.any fun f=> !p f)=l.all p
 |[]=>rfl
 |x::l=>by rw[List.any_cons,List.all_cons,Bool.not_or,Bool.not_not,ajJ]
theorem ajF(l:List bd)(name:ByteArray):(named l name= -1/\findF l name=none)\/∃ (i:Nat) (g:bd),named l name=i/\l[i]? =some g/\findF l name=some g:=by
 unfold named s8 findF;cases h:l.findIdx? (fun g=>g.name.toList==name.toList) with
 |none=>
  left;refine⟨rfl,?_⟩;rw[List.findIdx?_eq_none_iff] at h;rw[List.find?_eq_none];intro x hx;simpa using h x hx
 |some i=>
  right;obtain⟨hi,h1,h2⟩:=List.findIdx?_eq_some_iff_getElem.1 h;refine⟨i,l[i],rfl,bB hi,?_⟩;rw[List.find?_eq_some_iff_getElem];exact⟨h1,i,hi,rfl,fun j hj=>by simpa using h2 j hj⟩
abbrev agV:D:=.s (.map none)
def aiu(l:List Int)(i:Int):Int:=l.getD i.toNat 0
def aiG(c g:bd)(args:List Int)(i:Nat):Bool:=aiu c.ag (args.getD i 0)==g.ag.getD i 0
def aiA(c g:bd)(args:List Int):Bool:=decide ((args.length:Int)=g.args)&&(range args.length).all (aiG c g args)
theorem aiD{i sz:Nat}{cs:List D}:sub (dG i cs sz) (.rp i 0)=.pt cs:=nt.trans (by rw[List.drop_zero])
def aiM(r:Int)(b:cE):Bool:=decide (b.fin.kind=7)&&decide (b.fin.a=r)
def aiN(c:bd)(l:List bd)(r:Int):Option bd:=match c.blocks.find? (aiM r) with
 |some b=>findF l b.fin.name
 |none=>none
theorem aj4(o:Option bd):Tr (aje o):=by
 cases o with
 |none=>exact .bp (.cons (.agg (.cons (.s _) (.cons (.s _) (.cons (.s _) (.cons (.s _) (.cons .z (.cons .z (.cons .z (.cons .z .nil))))))))) (.cons (.s _) .nil))
 |some g=>exact .bp (.cons (.agg (oY g)) (.cons (.s _) .nil))
def ai0(c:bd)(l:List bd)(y:End):Bool:=match findF l y.name with
 |none=>false
 |some g=> !g.iter&&(aiA c g y.args&& !(decide (0<=y.a)&&(aiu c.ag y.a !=g.result)))
def ai1(c:bd)(l:List bd)(y:End):Bool:=match findF l y.name with
 |none=>false
 |some g=>g.iter&&aiA c g y.args
def aiT(c:bd)(l:List bd)(y:End):Bool:=match aiN c l y.a with
 |none=>true
 |some g=> !(aiu c.ag y.b !=g.result)
def aiv(c:bd)(l:List bd)(b:cE):Bool:=
 if b.fin.kind=6 then ai0 c l b.fin else if b.fin.kind=7 then ai1 c l b.fin else if b.fin.kind=8 then aiT c l b.fin else true
def aiK(c:bd)(l:List bd):Bool:=c.blocks.all (aiv c l)
structure ajo(c:bd)(l:List bd):Prop where
 len:l.length<=1000000
 ajM:c.blocks.length<=1000000
 args:∀ b∈c.blocks,b.fin.kind=6\/b.fin.kind=7->(∀ r∈b.fin.args,0<=r/\r<c.ag.length)/\b.fin.args.length<=1000000
 a:∀ b∈c.blocks,b.fin.kind=6->b.fin.a<c.ag.length
 b:∀ b∈c.blocks,b.fin.kind=8->0<=b.fin.b/\b.fin.b<c.ag.length
 fl:∀ g∈l,g.args<=g.ag.length
theorem ajY{l:List bd}{name:ByteArray}{g:bd}(h:findF l name=some g):g∈l:=List.mem_of_find?_eq_some h
def ai8(a b:ByteArray):Bool:= !(Op.bytesLess a.toList b.toList)
def ai4(l:List bd)(i:Nat):ByteArray:=match l[i]? with
 |some f=>f.name
 |none=>⟨#[]⟩
def air(l:List bd)(i:Nat):Int:=match l[i]? with
 |none=>0
 |some f=>if vU f=0 then(if decide (0<i)&&ai8 (ai4 l (i - 1)) f.name then 1 else 0) else vU f
def aiE(l:List bd)(i:Nat):Bool:=match l[i]? with
 |none=>false
 |some f=> !aiK f l
def ait(l:List bd):Int×Int:=
 if 60<l.length then(0,2) else match (range l.length).find? fun i=>air l i !=0 with
 |some i=>(i,air l i)
 |none=>match (range l.length).find? (aiE l) with
  |some i=>(i,82)
  |none=>(0,0)
theorem ajk{p:Nat->Bool}{n k:Nat}(hk:k<n)(hp:p k=true)(h:∀ j,j<k->p j=false):(range n).find? p=some k:=by
 rw[List.find?_eq_some_iff_getElem];refine⟨hp,k,by simpa using hk,oS,fun j hj=>?_⟩;simp[h j hj]
theorem ajl{p:Nat->Bool}{n:Nat}(h:∀ j,j<n->p j=false):(range n).find? p=none:=by
 rw[List.find?_eq_none];intro x hx;simp[h x (List.mem_range.1 hx)]
theorem checked{f:bd}(h:vU f=0):nZ f=true:=by
 unfold vU at h;split at h
 .assumption
 .cases h
theorem ajz{f:bd}{l:List bd}(hl:l.length<=1000000)(h:∀ g∈l,vU g=0)(hf:f∈l):ajo f l:=by
 have C:=checked (h f hf);have M:=SQ C
 have J:∀ b∈f.blocks,jG f b.fin=true:=fun b hb=>by
  unfold nZ at C;simp only[ay] at C;obtain⟨k,hk⟩:=dY hb;have:=b7.1 C.2.2.2.1 k (List.mem_range.2 (bZ.1 hk).1);unfold kq at this;rw[getD_some hk] at this;simp only[ay] at this;exact this.1
 refine⟨hl,by have:=M.BJ;omega,fun b hb hk=>?_,fun b hb hk=>?_,fun b hb hk=>?_,fun g hg=>?_⟩
 .have:=J b hb;unfold jG at this;rcases hk with hk|hk<;>simp only[gf,hk,Int.reduceEq,if_false,if_true,ay,decide_eq_true_eq] at this<;>exact⟨fun r hr=>xE this.1.2.2.1 r hr,by have:=this.1.2.1;omega⟩
 .have:=J b hb;unfold jG at this;simp only[gf,hk,Int.reduceEq,if_false,if_true,ay,decide_eq_true_eq,Bool.or_eq_true,na] at this;rcases this.1.2.2.2.1 with h1|h1
  .omega
  .exact(nW h1).2
 .have:=J b hb;unfold jG at this;simp only[gf,hk,Int.reduceEq,if_false,if_true,ay,decide_eq_true_eq] at this;exact nW this.1.2.1
 .have:=checked (h g hg);unfold nZ ni at this;simp only[ay] at this;have:=kH.1 this.1.2.1;split at this<;>omega
def aiC(f g:bd)(x y:End):Bool:= !(y.kind==8&&(y.a==x.a&&(aiu f.ag y.b !=g.result)))
def aiQ(f g:bd)(x:End):Bool:=
 (g.iter==(x.kind==7))&&(decide (g.args=x.args.length)&&((range x.args.length).all (aiG f g x.args)&&(!(x.kind==6&&(x.a != -1&&(aiu f.ag x.a !=g.result)))&&(x.kind==6||f.blocks.all fun c=>aiC f g x c.fin))))
def aix(l:List bd)(f:bd)(x:End):Bool:=if x.kind=6\/x.kind=7 then(match findF l x.name with
 |none=>false
 |some g=>aiQ f g x) else true
def ai2(l:List bd)(f:bd):Bool:=f.blocks.all fun b=>aix l f b.fin
theorem ajG{f:bd}(h:nZ f=true){i j:Nat}{b c:cE}(hb:f.blocks[i]? =some b)(hc:f.blocks[j]? =some c)(O:i<j)(J:b.fin.kind=7)(M:c.fin.kind=7):b.fin.a≠c.fin.a:=fun e=>by
 unfold nZ at h;simp only[ay] at h;have:=b7.1 h.2.2.2.1 j (List.mem_range.2 (bZ.1 hc).1);unfold kq at this;rw[getD_some hc] at this;simp only[ay] at this;have C:=this.2.2;rw[M] at C;simp only[beq_self_eq_true,Bool.true_and,Bool.not_eq_true',List.any_eq_false] at C;refine C b.fin.a ?_ (by simp[e]);unfold lh;refine List.mem_map.2 ⟨b,List.mem_filter.2 ⟨?_,by simp[J]⟩,rfl⟩;refine cX (i:=i) ?_;rw[List.getElem?_take_of_lt O];exact hb
theorem ajA{f:bd}(h:nZ f=true){b:cE}(hb:b∈f.blocks)(hk:b.fin.kind=6): -1<=b.fin.a:=by
 unfold nZ at h;simp only[ay] at h;obtain⟨k,C⟩:=dY hb;have:=b7.1 h.2.2.2.1 k (List.mem_range.2 (bZ.1 C).1);unfold kq at this;rw[getD_some C] at this;simp only[ay] at this;have:=this.1;unfold jG at this;simp only[gf,hk,Int.reduceEq,if_false,if_true,ay,decide_eq_true_eq,Bool.or_eq_true,na] at this;rcases this.1.2.2.2.1 with h1|h1
 .omega
 .have:=(nW h1).1;omega
theorem ajV{f:bd}(h:nZ f=true){b:cE}(hb:b∈f.blocks)(J:b.fin.kind=7)(l:List bd):aiN f l b.fin.a=findF l b.fin.name:=by
 unfold aiN;have hp:aiM b.fin.a b=true:=by simp[aiM,J]
 cases hf:f.blocks.find? (aiM b.fin.a) with
 |none=>exact absurd hp (by simpa using List.find?_eq_none.1 hf b hb)
 |some c=>
  dsimp only;have hc:=List.mem_of_find?_eq_some hf;have C:=List.find?_some hf;simp only[aiM,ay,decide_eq_true_eq] at C;obtain⟨i,hi⟩:=dY hb;obtain⟨j,hj⟩:=dY hc;rcases Nat.lt_trichotomy i j with e|e|e
  .exact absurd C.2.symm (ajG h hi hj e J C.1)
  .subst e;rw[hi] at hj;cases hj;rfl
  .exact absurd C.2 (ajG h hj hi e C.1 J)
theorem ajU{f:bd}(h:nZ f=true)(l:List bd):ai2 l f=aiK f l:=by
 rw[Bool.eq_iff_iff];unfold ai2 aiK;rw[b7,b7];constructor
 .intro H b hb;unfold aiv;have C:=H b hb;unfold aix at C;by_cases O:b.fin.kind=6
  .rw[if_pos (.inl O)] at C;rw[if_pos O];unfold ai0;cases hf:findF l b.fin.name with
   |none=>rw[hf] at C;cases C
   |some g=>
    rw[hf] at C;simp only[aiQ,O,ay,decide_eq_true_eq] at C;obtain⟨h1,h2,h3,h4,_⟩:=C;simp only[aiA,ay,decide_eq_true_eq];refine⟨by simpa using h1,⟨h2.symm,h3⟩,?_⟩;have:=ajA h hb O;simp at h4 ⊢;exact h4.imp (fun h=>by omega) id
  rw[if_neg O];by_cases U:b.fin.kind=7
  .rw[if_pos (.inr U)] at C;rw[if_pos U];unfold ai1;cases hf:findF l b.fin.name with
   |none=>rw[hf] at C;cases C
   |some g=>
    rw[hf] at C;simp only[aiQ,U,ay,decide_eq_true_eq] at C;obtain⟨h1,h2,h3,_⟩:=C;simp only[aiA,ay,decide_eq_true_eq];exact⟨by simpa using h1,h2.symm,h3⟩
  rw[if_neg U];by_cases X:b.fin.kind=8
  .rw[if_pos X];unfold aiT;cases ho:aiN f l b.fin.a with
   |none=>rfl
   |some g=>
    dsimp only;unfold aiN at ho;cases hc:f.blocks.find? (aiM b.fin.a) with
    |none=>rw[hc] at ho;cases ho
    |some c=>
     rw[hc] at ho;dsimp only at ho;have hcm:=List.mem_of_find?_eq_some hc;have HJ:=List.find?_some hc;simp only[aiM,ay,decide_eq_true_eq] at HJ;have C:=H c hcm;unfold aix at C;rw[if_pos (.inr HJ.1),ho] at C;simp only[aiQ,HJ.1,ay] at C;have h5:=C.2.2.2.2;simp only[Int.reduceBEq,Bool.false_or,b7] at h5;have:=h5 b hb;simpa[aiC,X,HJ.2] using this
  .rw[if_neg X]
 .intro H b hb;unfold aix;split
  .rename_i hk;have J:=H b hb;unfold aiv at J;rcases hk with O|U
   .rw[if_pos O] at J;unfold ai0 at J;cases hf:findF l b.fin.name with
    |none=>rw[hf] at J;cases J
    |some g=>
     rw[hf] at J;simp only[aiA,ay,decide_eq_true_eq] at J;obtain⟨h1,⟨h2,h3⟩,h4⟩:=J;simp only[aiQ,O,ay,decide_eq_true_eq];refine⟨by simpa using h1,h2.symm,h3,?_,oS⟩;have:=ajA h hb O;simp at h4 ⊢;exact h4.imp (fun h=>by omega) id
   .rw[if_neg oG,if_pos U] at J;unfold ai1 at J;cases hf:findF l b.fin.name with
    |none=>rw[hf] at J;cases J
    |some g=>
     rw[hf] at J;simp only[aiA,ay,decide_eq_true_eq] at J;obtain⟨h1,h2,h3⟩:=J;simp only[aiQ,U,ay,decide_eq_true_eq];refine⟨by simpa using h1,h2.symm,h3,oS,?_⟩;simp only[Int.reduceBEq,Bool.false_or,b7];intro c hc;have M:=H c hc;unfold aiC;by_cases X:c.fin.kind=8
     .by_cases ea:c.fin.a=b.fin.a
      .unfold aiv at M;rw[if_neg oG,if_neg oG,if_pos X] at M;unfold aiT at M;rw[ea,ajV h hb U,hf] at M;simpa[X,ea] using M
      .simp[X,ea]
     .simp[X]
  .rfl
structure ajL(l:List bd):Prop where
 str:∀ f∈l,CY f
 whs:∀ f∈l,∀ b∈f.blocks,b.fin.aJ.length<=10
 len:l.length<=1000
theorem aj7{l:List bd}(hs:∀ f∈l,CY f)(h:aiW l=true):ajL l:=
 ⟨hs,fun f hf=>Z8 (ajW h f hf),by have:=ajI h;omega⟩
theorem aj8{l:List bd}(h:60<l.length):ait l=(0,2):=by unfold ait;rw[if_pos h]
end Go.Argus
namespace Go.Proofs.Tryz.K
theorem akk{f:bd}{name:ByteArray}:ax prog 157 [.agg (a6 f),.pt [S name]] (B (f.name.toList==name.toList)):=by
 refine bP akb (.cons (.agg (oY f)) (.cons (.pt (.cons (.s _) .nil)) .nil)) (Tr.s _) ?_;rw[akc];refine aE ?_;refine af ?_;refine ab (bj (cr [(0,a6 f,26)] eH (l:=[(1,.pt [S name]),(2,.pt (a6 f))]) eH) (al ?_));refine bH ?_;exact ab (ap rfl rfl)
theorem ai7{l:List bd}{g:FuncId}{fs cs:List D}{p:bd->Bool}(hl:l.length<=1000000)(ht:Tr (.fn (.func g) fs cs))(hg:∀ x∈l,ax prog g (fs++[.agg (a6 x)]++cs) (B (p x))):ax prog 154 [agU l,.fn (.func g) fs cs] (I (s8 p l)):=by
 refine bP akd (.cons (aiJ _) (.cons ht .nil)) (Tr.s _) ?_;rw[ake];refine ws ?_;refine SS ?_;refine ab (aV (aE ?_));refine aB ?_
 refine ab (dA (fun s=>aR prog s ⟨aH [],fun _=>none,0⟩/\∀ (j:Nat) y,l[j]? =some y->p y=false) (iK (α:=Nat) (fun k=>⟨aH [(0,agU l),(1,.fn (.func g) fs cs),(7,I l.length),(8,I k)],fun _=>none,0⟩)
  (fun k=>k<=l.length/\∀ j y,j<k->l[j]? =some y->p y=false) (fun k=>l.length - k) 0 (aq eH) ⟨oG,fun j y hj=>by omega⟩ ?_) ?_)
 .rintro k ⟨hk,hinv⟩;refine SS ?_;refine ab ⟨_,rfl,fun h=>?_,fun h=>?_⟩
  .have aj:k<l.length:=by simpa using h
   obtain⟨x,hx⟩:∃ x,l[k]? =some x:=⟨_,bB aj⟩
   have J:=hg x (cX hx);refine ws ?_;refine af ?_;refine er ?_;refine bH ?_;refine cl J ?_;refine ab (yC rfl (fun hp=>?_) fun hp=>?_)
   .refine ws ?_;refine af ?_;refine ab (bh (dp (aY (ap rfl ?_))));rw[E8 hx hp hinv];rfl
   .refine eC ?_;refine af ?_;refine ab (bD (k+1) (aq eH) ⟨oG,fun j y hj hy=>?_⟩ oG);by_cases e:j=k
    .subst e;rw[hx] at hy;cases hy;exact hp
    .exact hinv j y oG hy
  .have M:¬ k<l.length:=by simpa using h
   exact⟨.forget _ _ _ _ fun _=>.inr rfl,fun j y hy=>hinv j y (by have:=(bZ.1 hy).1;omega) hy⟩
 .rintro s ⟨hg,C⟩;refine⟨_,hg,al ?_⟩;refine SS ?_;refine ab (ap rfl ?_);rw[E' C];rfl
theorem k70{l:List bd}{g:FuncId}{fs cs:List D}{p:bd->Bool}(hl:l.length<=1000000)(ht:Tr (.fn (.func g) fs cs))(hg:∀ x∈l,ax prog g (fs++[.agg (a6 x)]++cs) (B (p x))):ax prog 70 [agU l,.fn (.func g) fs cs] (B (l.any p)):=by
 have ai7:=ai7 hl ht hg;refine bP akl (.cons (aiJ _) (.cons ht .nil)) (Tr.s _) ?_;rw[akm];refine ws ?_;refine SS ?_;refine er ?_;refine af ?_;refine cl ai7 ?_;refine af ?_;refine ab (ap rfl ?_);rw[<- Fq];rfl
theorem k71{f:bd}:ax prog 71 [.agg (a6 f)] (B (!vT f)):=by
 have xd:=xd (f:=f);refine bP akJ (.cons (.agg (oY f)) .nil) (Tr.s _) ?_;rw[akK];refine aE ?_;refine af ?_;refine ab (bj (cr [(0,a6 f,26)] eH (l:=[(1,.pt (a6 f))]) eH) (al ?_));refine SS ?_;refine cl xd ?_;refine af ?_;exact ab (ap rfl rfl)
theorem k18{l:List bd}:ax prog 18 [agU l] (B (aiW l)):=by
 refine bP akW (.cons (aiJ _) .nil) (Tr.s _) ?_;rw[akX];refine ws ?_;refine SS ?_;refine er ?_;cases hd:decide ((l.length:Int)<=6) with
 |true=>
  have hl:l.length<=1000000:=by
   have:=of_decide_eq_true hd;omega
  have k70:=k70 (l:=l) (g:=71) (fs:=[]) (cs:=[]) (p:=fun f=> !vT f) hl (.fn oS oS) (fun x _=>k71);have UI:decide ((l.length:Int)<=6)=true:=hd;refine af ?_;refine ao (acp rfl rfl UI) ak rfl ?_;refine af ?_;refine gc k70 ?_;refine aB ?_;refine ab (ap rfl ?_);rw[aiW,hd, <- ajJ];rfl
 |false=>
  have UI:decide ((l.length:Int)<=6)=false:=hd;refine af ?_;refine ao (acp rfl rfl UI) ak rfl ?_;refine SS ?_;(iterate 3 refine z fun _ _=>?_);refine af ?_;refine ab (ap rfl ?_);rw[aiW,hd];rfl
theorem k75{l:List bd}{name:ByteArray}(hl:l.length<=1000000):ax prog 75 [agU l,S name] (aje (findF l name)):=by
 have ai7:=ai7 (l:=l) (g:=157) (fs:=[]) (cs:=[.pt [S name]]) (p:=fun g=>g.name.toList==name.toList) hl (.fn oS (.cons (.pt (.cons (.s _) .nil)) .nil)) fun x _=>akk
 change ax _ _ _ (I (named l name)) at ai7
 have C:Tr (aje (findF l name)):=by
  cases findF l name with
  |none=>exact .bp (.cons (.agg (.cons (.s _) (.cons (.s _) (.cons (.s _) (.cons (.s _) (.cons .z (.cons .z (.cons .z (.cons .z .nil))))))))) (.cons (.s _) .nil))
  |some g=>exact .bp (.cons (.agg (oY g)) (.cons (.s _) .nil))
 refine bP ak5 (.cons (aiJ _) (.cons (.s _) .nil)) C ?_;rw[ak6];refine aE ?_;refine cM (Ks (d:=.s (.string _)) rfl rfl) ak rfl ?_;refine af ?_;refine ab ⟨_,tM (i:=0) (cs:=[S name]) (e:=9) rfl (l:=[(0,agU l),(3,.pt [S name]),(4,.rp 1 0)]) eH (ml:=[(1,.cells aiL 26)]) eH,al ?_⟩;refine af ?_;refine cl ai7 ?_;refine SS ?_;refine ab (aV (al ?_));rcases ajF l name with⟨hn,hf⟩|⟨i,g,hn,hg,hf⟩
 .rw[hn,hf];refine af ?_;refine ab (yx (aV (al ?_)));refine aB ?_;exact ab (fN (Xe (mV rfl rfl a26 c26 rfl t26 oC) rfl rfl))
 .rw[hn,hf];have aj:=(bZ.1 hg).1;refine af ?_;refine ab (dI rfl (fun h=>?_) fun _=>dL (al ?_))
  .simp at h;omega
  refine cY ?_;exact ab (Xe (mV rfl rfl a26 c26 rfl t26 (bO 8)) rfl rfl)
theorem aj9{m:Mem}{nx j sz:Nat}{r:Row}{cs:List D}(hj:j≠nx)(h1:m j=some r)(hr:Row.sub (dG nx cs sz) r=r):(fun j=>if j=nx then none else(m j).map (Row.sub (dG nx cs sz))) j=some r:=by
 show(if j=nx then none else(m j).map _)=_;rw[if_neg hj,h1];exact congrArg some hr
theorem aiO{c:bd}{l:List bd}{r:Int}(hl:l.length<=1000000)(X:c.blocks.length<=1000000):ax prog 156 [.agg (bu agV agV c),agU l,I r] (aje (aiN c l r)):=by
 have O:∀ a∈[D.agg (bu agV agV c),agU l,I r],Tr a:=.cons (my (.s _) (.s _) c) (.cons (aiJ l) (.cons (.s _) .nil));have k75:∀ {name:ByteArray},ax prog 75 [agU l,S name] (aje (findF l name)):=fun {name}=>k75 hl;refine bP akh O (aj4 _) ?_;rw[aki];refine aE ?_;refine aB ?_;refine ab ⟨_,tM (i:=0) (cs:=bu agV agV c) (e:=93) rfl (l:=[(1,agU l),(2,I r),(3,.pt (bu agV agV c)),(6,.rp 1 0)]) eH (ml:=[(1,.cells aiL 26)]) eH,aV (aE ?_)⟩;refine bH ?_
 refine ab (dA (fun s=>(∃ nx,2<=nx/\aR prog s ⟨aH [(6,.rp 1 0)],aby [(1,.cells aiL 26)],nx⟩)/\∀ (j:Nat) y,c.blocks[j]? =some y->aiM r y=false) (iK (α:=Nat×Nat) (fun s=>⟨aH [(1,agU l),(2,I r),(6,.rp 1 0),(12,gl c.blocks),(13,I c.blocks.length),(14,I s.1)],aby [(1,.cells aiL 26)],s.2⟩)
  (fun s=>s.1<=c.blocks.length/\2<=s.2/\∀ j y,j<s.1->c.blocks[j]? =some y->aiM r y=false) (fun s=>c.blocks.length - s.1) (0,2) (aq eH) ⟨Nat.zero_le _,bO _,fun j y hj=>by omega⟩ ?_) ?_)
 .rintro⟨k,nx⟩ ⟨hk,J,hinv⟩;dsimp only at hk J hinv ⊢;refine SS ?_;refine ab ⟨_,rfl,fun h=>?_,fun h=>?_⟩
  .have aj:k<c.blocks.length:=by simpa using h
   obtain⟨b,hb⟩:∃ b,c.blocks[k]? =some b:=⟨_,bB aj⟩
   refine aE ?_;refine a7 ?_;refine ab ⟨_,tM (i:=nx) (cs:=gR b) (e:=69) (au _ _ _) (l:=[(1,agU l),(2,I r),(6,.rp 1 0),(12,gl c.blocks),(13,I c.blocks.length),(14,I k),(9,.pt (gR b))]) ⟨rfl,rfl,QF oG,rfl,rfl,rfl,aiD,trivial⟩ (ml:=[(1,.cells aiL 26)]) ⟨aj9 oG (aM oG (aM oG rfl)) rfl,trivial⟩,al ?_⟩;have C:aiM r b=(decide (b.fin.kind=7)&&decide (b.fin.a=r)):=rfl;refine SN9 ?_;refine af ?_;refine ab (yC rfl (fun hp=>?_) fun hp=>?_)
   .have hf:aiN c l r=findF l b.fin.name:=by
     unfold aiN
     have:c.blocks.find? (aiM r)=some b:=by
      rw[List.find?_eq_some_iff_getElem];refine⟨by rw[C];simpa using hp,k,aj,(bZ.1 hb).2,fun j hj=>?_⟩;have:=hinv j c.blocks[j] hj (bB oG);simp[this]
     rw[this]
    rw[hf];have k75:= @k75 b.fin.name;generalize findF l b.fin.name=o at k75;cases o with
    |none=>
     refine ws ?_;refine a7 ?_;refine cl k75 ?_;refine a7 ?_;refine ab (bh (dp (aY (Xe (mV rfl rfl a26 c26 rfl t26 (bO 8)) rfl rfl))))
    |some g=>
     refine ws ?_;refine a7 ?_;refine cl k75 ?_;refine a7 ?_;refine ab (bh (dp (aY (Xe (mV rfl rfl a26 c26 rfl t26 (bO 8)) rfl rfl))))
   .refine eC ?_;refine af ?_;refine ab (bD (k+1,nx+1) (aq eH) ⟨oM,oM,fun j y hj hy=>?_⟩ oM);by_cases e:j=k
    .subst e;rw[hb] at hy;cases hy;rw[C];simpa using hp
    .exact hinv j y (by dsimp only at hj;omega) hy
  .have U:¬ k<c.blocks.length:=by simpa using h
   exact⟨⟨nx,J,aq eH⟩,fun j y hy=>hinv j y (by have:=(bZ.1 hy).1;omega) hy⟩
 .rintro s ⟨⟨nx,J,hg⟩,M⟩
  have hf:aiN c l r=none:=by
   unfold aiN
   have:c.blocks.find? (aiM r)=none:=by
    rw[List.find?_eq_none];intro y hy;obtain⟨j,hj⟩:=dY hy;simp[M j y hj]
   rw[this]
  rw[hf];refine⟨_,hg,al ?_⟩;refine aB ?_;exact ab (Xe (mV rfl rfl a26 c26 rfl t26 (bO 8)) rfl rfl)
end Go.Proofs.Tryz.K
end
namespace Go.Argus
open Go Go.Abs Go.Argus
theorem aj2(l:List vW.val):(Sh.sl vW).arg l=agU (l.map S4):=LU aj3 l
end Go.Argus
section
open Go Go.Abs Go.Proofs Go.Argus
namespace Go.Proofs.Tryz.K
theorem aiX{c g:bd}{args:List Int}(ha:∀ r∈args,0<=r/\r<c.ag.length)(hg:g.args<=g.ag.length)(hl:args.length<=1000000):
 ax prog 155 [.agg (bu agV agV c),.agg (a6 g),aX args] (B (aiA c g args)):=by
 have O:∀ a∈[D.agg (bu agV agV c),.agg (a6 g),aX args],Tr a:=.cons (my (.s _) (.s _) c) (.cons (.agg (oY g)) (.cons (ew _) .nil));refine bP akf O (Tr.s _) ?_;rw[akg];refine aE ?_;refine aB ?_;refine ab (bj (cr [(0,bu agV agV c,93),(1,a6 g,26)] eH (l:=[(2,aX args),(3,.pt (bu agV agV c)),(4,.pt (a6 g))]) eH) (aV (al ?_)));refine bH ?_;refine ab (dI rfl (fun h=>aV (al ?_)) fun h=>dL (aV (aE ?_)))
 .have:¬ (args.length:Int)=g.args:=by simpa using h
  have hf:aiA c g args=false:=by simp[aiA,this]
  rw[hf];refine SS ?_;exact ab (fN (ap rfl rfl))
 have hlen:(args.length:Int)=g.args:=by simpa using h
 refine aB ?_
 refine ab (dA (fun s=>aR prog s ⟨aH [],fun _=>none,2⟩/\∀ j,j<args.length->aiG c g args j=true) (iK (α:=Nat) (fun k=>⟨aH [(3,.pt (bu agV agV c)),(4,.pt (a6 g)),(14,aX args),(15,I args.length),(16,I k)],fun _=>none,2⟩)
  (fun k=>k<=args.length/\∀ j,j<k->aiG c g args j=true) (fun k=>args.length - k) 0 (aq eH) ⟨oG,fun j hj=>by omega⟩ ?_) ?_)
 .rintro k ⟨hk,hinv⟩;refine SS ?_;refine ab ⟨_,rfl,fun h=>?_,fun h=>?_⟩
  .have aj:k<args.length:=by simpa using h
   obtain⟨x,hx⟩:∃ x,args[k]? =some x:=⟨_,bB aj⟩
   obtain⟨U,X⟩:=ha x (cX hx);refine ws ?_;refine bH ?_;obtain⟨J,rfl⟩:∃ J:Nat,x=J:=⟨x.toNat,oG⟩
   obtain⟨u,hu⟩:∃ u,c.ag[J]? =some u:=⟨_,bB oG⟩
   obtain⟨v,hv⟩:∃ v,g.ag[k]? =some v:=⟨_,bB oG⟩
   refine ab (eF ajX ?_);refine SN9 ?_;refine aB ?_;have C:aiG c g args k=(u==v):=by simp[aiG,aiu,eg,hx,hu,hv]
   refine bX bY (yC rfl (fun hp=>?_) fun hp=>?_)
   .have hf:aiA c g args=false:=by
     have:(range args.length).all (aiG c g args)=false:=by
      rw[List.all_eq_false];refine⟨k,List.mem_range.2 aj,?_⟩;rw[C];simpa using hp
     simp[aiA,this]
    rw[hf];refine ws ?_;refine SS ?_;exact ab (bh (dp (aY (ap rfl rfl))))
   .refine eC ?_;refine af ?_;refine ab (bD (k+1) (aq eH) ⟨oG,fun j hj=>?_⟩ oG);by_cases e:j=k
    .subst e;rw[C];simpa using hp
    .exact hinv j oG
  .have bL:¬ k<args.length:=by simpa using h
   exact⟨.forget _ _ _ _ fun _=>.inr rfl,fun j hj=>hinv j oG⟩
 .rintro s ⟨hg,M⟩;refine⟨_,hg,al ?_⟩
  have:(range args.length).all (aiG c g args)=true:=by
   rw[b7];intro j hj;exact M j (List.mem_range.1 hj)
  have hf:aiA c g args=true:=by simp[aiA,hlen,this]
  rw[hf];refine SS ?_;exact ab (ap rfl rfl)
end Go.Proofs.Tryz.K
namespace Go.Proofs.Tryz.K
theorem k72{c:bd}{l:List bd}(hc:ajo c l):ax prog 72 [.agg (bu agV agV c),agU l] (B (aiK c l)):=by
 have br:∀ a∈[D.agg (bu agV agV c),agU l],Tr a:=.cons (my (.s _) (.s _) c) (.cons (aiJ l) .nil);have hl:=hc.len;have fI:=hc.ajM;refine bP ak7 br (.s _) ?_;rw[ak8];refine aE ?_;refine af ?_;refine ab (bj (cr [(0,bu agV agV c,93)] eH (l:=[(1,agU l),(2,.pt (bu agV agV c))]) eH) (aV (aE ?_)));refine bH ?_
 refine ab (dA (fun s=>∃ nx,aR prog s ⟨aH [],fun _=>none,nx⟩/\∀ (j:Nat) y,c.blocks[j]? =some y->aiv c l y=true) (iK (α:=Nat×Nat) (fun s=>⟨aH [(1,agU l),(2,.pt (bu agV agV c)),(14,gl c.blocks),(15,I c.blocks.length),(16,I s.1)],fun _=>none,s.2⟩)
  (fun s=>s.1<=c.blocks.length/\∀ j y,j<s.1->c.blocks[j]? =some y->aiv c l y=true) (fun s=>c.blocks.length - s.1) (0,1) (aq eH) ⟨Nat.zero_le _,fun j y hj=>by omega⟩ ?_) ?_)
 .rintro⟨k,nx⟩ ⟨hk,hinv⟩;dsimp only at hk hinv ⊢;refine SS ?_;refine ab ⟨_,rfl,fun h=>?_,fun h=>?_⟩
  .have aj:k<c.blocks.length:=by simpa using h
   clear h;obtain⟨b,hb⟩:∃ b,c.blocks[k]? =some b:=⟨_,bB aj⟩
   have oA:=cX hb;have HJ:=hc.args b oA;have hcA:=hc.a b oA;have ajN:=hc.b b oA;have C:aiv c l b=if b.fin.kind=6 then ai0 c l b.fin else if b.fin.kind=7 then ai1 c l b.fin else if b.fin.kind=8 then aiT c l b.fin else true:=rfl
   have BC:aiv c l b=false->aiK c l=false:=fun h=>by
    unfold aiK;rw[List.all_eq_false];exact⟨b,oA,by simp[h]⟩
   have yW:aiv c l b=true->∀ j y,j<k+1->c.blocks[j]? =some y->aiv c l y=true:=fun h j y hj hy=>by
    by_cases e:j=k
    .subst e;rw[hb] at hy;cases hy;exact h
    .exact hinv j y oG hy
   refine aE ?_;refine a7 ?_;refine ab ⟨_,sj (i:=nx) (cs:=gR b) (e:=69) (au _ _ _) (l:=[(1,agU l),(2,.pt (bu agV agV c)),(14,gl c.blocks),(15,I c.blocks.length),(16,I k),(6,.pt (gR b))]) ⟨rfl,rfl,rfl,rfl,rfl,aiD,trivial⟩,aE ?_⟩;refine a7 ?_;refine ab ⟨_,sj (i:=nx+1) (cs:=bA b.fin) (e:=48) (au _ _ _) (l:=[(1,agU l),(2,.pt (bu agV agV c)),(14,gl c.blocks),(15,I c.blocks.length),(16,I k),(7,.pt (bA b.fin))]) ⟨rfl,rfl,rfl,rfl,rfl,aiD,trivial⟩,aE ?_⟩;generalize b.fin=x at*
   have k75:=k75 (l:=l) (name:=x.name) hl;cases ho:findF l x.name with
   |none=>
    rw[ho] at k75;refine aB ?_;refine cl k75 ?_;refine cY ?_;refine ab ⟨_,sj (i:=nx+1+1) (cs:=aiL) (e:=26) (au _ _ _) (l:=[(1,agU l),(2,.pt (bu agV agV c)),(14,gl c.blocks),(15,I c.blocks.length),(16,I k),(7,.pt (bA x)),(8,.pt aiL),(9,B false)]) ⟨rfl,rfl,rfl,rfl,rfl,rfl,aiD,rfl,trivial⟩,al ?_⟩;refine af ?_;refine ab (qN (al ?_));refine af ?_;refine ab (yC rfl (fun J=>?_) fun J=>?_)
    .have J:x.kind=6:=by simpa using J
     rw[if_pos J] at C;have X:ai0 c l x=false:=by unfold ai0;rw[ho]
     rw[BC (C.trans X)];refine eF ajy ?_;refine cT ?_;refine z fun _ _=>?_;refine af ?_;(iterate 2 refine z fun _ _=>?_);refine a7 ?_;refine bQ rfl rfl (Lb rfl rfl) (fun hc=>⟨ak,rfl⟩) ?_;refine cY ?_;(iterate 2 refine z fun _ _=>?_);refine af ?_;(iterate 2 refine z fun _ _=>?_);refine SS ?_;refine bX bY (akH (al ?_));refine SS ?_;exact ab (bh (bR (dp (aY (ap rfl rfl)))))
    .have J:¬ x.kind=6:=by simpa using J
     rw[if_neg J] at C;refine ws ?_;refine af ?_;refine ab (yC rfl (fun M=>?_) fun M=>?_)
     .have M:x.kind=7:=by simpa using M
      rw[if_pos M] at C;have hob:ai1 c l x=false:=by unfold ai1;rw[ho]
      rw[BC (C.trans hob)];refine ws ?_;refine SN9 ?_;refine z fun _ _=>?_;refine af ?_;(iterate 2 refine z fun _ _=>?_);refine SS ?_;refine ab (akH (al ?_));refine SS ?_;exact ab (bh (bR (dp (aY (ap rfl rfl)))))
     have M:¬ x.kind=7:=by simpa using M
     rw[if_neg M] at C;refine ws ?_;refine af ?_;refine ab (yC rfl (fun O=>?_) fun O=>?_)
     .have O:x.kind=8:=by simpa using O
      rw[if_pos O] at C;obtain⟨Bq,u6⟩:=ajN O;have aiO:=aiO (c:=c) (l:=l) (r:=x.a) hl fI;cases eD:aiN c l x.a with
      |none=>
       rw[eD] at aiO;have U:aiv c l b=true:=by rw[C];unfold aiT;rw[eD]
       refine aE ?_;refine a7 ?_;refine cl aiO ?_;refine cY ?_;refine ab ⟨_,sj (i:=nx+1+1+1) (cs:=aiL) (e:=26) (au _ _ _) (l:=[(1,agU l),(2,.pt (bu agV agV c)),(14,gl c.blocks),(15,I c.blocks.length),(16,I k),(7,.pt (bA x)),(10,.pt aiL),(11,B false)]) ⟨rfl,rfl,rfl,rfl,rfl,rfl,aiD,rfl,trivial⟩,eF ajn ?_⟩;refine fS ?_;(iterate 2 refine z fun _ _=>?_);refine af ?_;refine z fun _ _=>?_;refine SS ?_;refine bX bY (akG (eC ?_));show aw prog nL (Z agW 17) false [] _ (Z agW 17).toList _ [];refine af ?_;refine ab (bD (k+1,_) (aq eH) ⟨oM,yW U⟩ oM)
      |some g'=>
       rw[eD] at aiO;have zq:aiT c l x= !(aiu c.ag x.b !=g'.result):=by unfold aiT;rw[eD]
       obtain⟨bn,hbn⟩:∃ bn:Nat,x.b=bn:=⟨x.b.toNat,oG⟩
       obtain⟨u,hu⟩:∃ u,c.ag[bn]? =some u:=⟨_,bB oG⟩
       obtain⟨kd,a,bb,to,gP,nm,ins,args,aJ,oth⟩:=x;dsimp only at*
       subst hbn;have hku:aiu c.ag (bn:Int)=u:=by simp[aiu,eg,hu]
       refine aE ?_;refine a7 ?_;refine cl aiO ?_;refine cY ?_;refine ab ⟨_,sj (i:=nx+1+1+1) (cs:=a6 g') (e:=26) (au _ _ _) (l:=[(1,agU l),(2,.pt (bu agV agV c)),(14,gl c.blocks),(15,I c.blocks.length),(16,I k),(7,.pt (bA ⟨kd,a,(bn:Int),to,gP,nm,ins,args,aJ,oth⟩)),(10,.pt (a6 g')),(11,B true)]) ⟨rfl,rfl,rfl,rfl,rfl,rfl,aiD,rfl,trivial⟩,eF ajn ?_⟩;refine SN9 ?_;refine a7 ?_;refine bX bY (yC rfl (fun hp=>al ?_) fun hp=>eC ?_)
       .have y3:aiv c l b=false:=by
         rw[C,zq,hku];simpa using hp
        rw[BC y3];refine SS ?_;exact ab (bh (bR (dp (aY (ap rfl rfl)))))
       .have U:aiv c l b=true:=by
         rw[C,zq,hku];simpa using hp
        show aw prog nL (Z agW 17) false [] _ (Z agW 17).toList _ [];refine af ?_;refine ab (bD (k+1,_) (aq eH) ⟨oM,yW U⟩ oM)
     .have O:¬ x.kind=8:=by simpa using O
      have U:aiv c l b=true:=by rw[C,if_neg O]
      refine eC ?_;show aw prog nL (Z agW 17) false [] _ (Z agW 17).toList _ [];refine af ?_;refine ab (bD (k+1,_) (aq eH) ⟨oM,yW U⟩ oM)
   |some g=>
    rw[ho] at k75;have hgl:=ajY ho;refine aB ?_;refine cl k75 ?_;refine cY ?_;refine ab ⟨_,sj (i:=nx+1+1) (cs:=(a6 g)) (e:=26) (au _ _ _) (l:=[(1,agU l),(2,.pt (bu agV agV c)),(14,gl c.blocks),(15,I c.blocks.length),(16,I k),(7,.pt (bA x)),(8,.pt (a6 g)),(9,B true)]) ⟨rfl,rfl,rfl,rfl,rfl,rfl,aiD,rfl,trivial⟩,al ?_⟩;refine af ?_;refine ab (qN (al ?_));refine af ?_;refine ab (yC rfl (fun J=>?_) fun J=>?_)
    .have J:x.kind=6:=by simpa using J
     rw[if_pos J] at C;have X:ai0 c l x=(!g.iter&&(aiA c g x.args&& !(decide (0<=x.a)&&(aiu c.ag x.a !=g.result)))):=by unfold ai0;rw[ho]
     have aiX:=aiX (c:=c) (g:=g) (args:=x.args) (HJ (.inl J)).1 (hc.fl g hgl) (HJ (.inl J)).2;generalize aiA c g x.args=fb at aiX X;by_cases ha:0<=x.a
     .have BM:=hcA J;obtain⟨an,han⟩:∃ an:Nat,x.a=an:=⟨x.a.toNat,oG⟩
      obtain⟨u,hu⟩:∃ u,c.ag[an]? =some u:=⟨_,bB oG⟩
      obtain⟨kd,a,bb,to,gP,nm,ins,args,aJ,oth⟩:=x;dsimp only at*
      subst han;have MD:decide ((0:Int)<=(an:Int))=true:=by simpa using ha
      refine eF ajy ?_;refine SN9 ?_;refine af ?_;refine gc aiX ?_;refine bH ?_;refine bQ rfl rfl (SH rfl rfl MD) (fun hc=>⟨ak,rfl⟩) ?_;refine SN9 ?_;refine a7 ?_;refine bX bY (yC rfl (fun hp=>al ?_) fun hp=>eC ?_)
      .have y3:aiv c l b=false:=by
        rw[C,X];revert hp;cases g.iter<;>cases fb<;>simp[aiu,eg,hu]
       rw[BC y3];refine SS ?_;exact ab (bh (bR (dp (aY (ap rfl rfl)))))
      .have U:aiv c l b=true:=by
        rw[C,X];revert hp;cases g.iter<;>cases fb<;>simp[aiu,eg,hu]
       show aw prog nL (Z agW 17) false [] _ (Z agW 17).toList _ [];refine af ?_;refine ab (bD (k+1,_) (aq eH) ⟨oM,yW U⟩ oM)
     .have MD:decide (0<=x.a)=false:=by simpa using ha
      refine eF ajy ?_;refine SN9 ?_;refine af ?_;refine gc aiX ?_;refine bH ?_;refine bQ rfl rfl (SH rfl rfl MD) (fun hc=>⟨ak,rfl⟩) ?_;refine SS ?_;refine CJ rfl (congrArg some (Bool.and_false _)) fun _ _=>?_;refine CJ rfl (congrArg some (Bool.and_false _)) fun _ _=>?_;refine CJ rfl (congrArg some (Bool.and_false _)) fun _ _=>?_;refine CJ rfl (congrArg some (Bool.and_false _)) fun _ _=>?_;refine CJ rfl (congrArg some (Bool.and_false _)) fun _ _=>?_;refine CJ rfl (congrArg some (Bool.and_false _)) fun _ _=>?_;refine CJ rfl (congrArg some (Bool.and_false _)) fun _ _=>?_;refine CJ rfl (congrArg some (Bool.and_false _)) fun _ _=>?_;refine CJ rfl (congrArg some (Bool.and_false _)) fun _ _=>?_;refine CJ rfl (congrArg some (Bool.and_false _)) fun _ _=>?_;refine af ?_;refine bX bY (yC rfl (fun hp=>al ?_) fun hp=>eC ?_)
      .have y3:aiv c l b=false:=by
        rw[C,X];revert hp;cases g.iter<;>cases fb<;>simp[ha]
       rw[BC y3];refine SS ?_;exact ab (bh (bR (dp (aY (ap rfl rfl)))))
      .have U:aiv c l b=true:=by
        rw[C,X];revert hp;cases g.iter<;>cases fb<;>simp[ha]
       show aw prog nL (Z agW 17) false [] _ (Z agW 17).toList _ [];refine af ?_;refine ab (bD (k+1,_) (aq eH) ⟨oM,yW U⟩ oM)
    .have J:¬ x.kind=6:=by simpa using J
     rw[if_neg J] at C;refine ws ?_;refine af ?_;refine ab (yC rfl (fun M=>?_) fun M=>?_)
     .have M:x.kind=7:=by simpa using M
      rw[if_pos M] at C;have hob:ai1 c l x=(g.iter&&aiA c g x.args):=by unfold ai1;rw[ho]
      have aiX:=aiX (c:=c) (g:=g) (args:=x.args) (HJ (.inr M)).1 (hc.fl g hgl) (HJ (.inr M)).2;generalize aiA c g x.args=fb at aiX hob;refine ws ?_;refine SN9 ?_;refine aB ?_;refine gc aiX ?_;refine af ?_;refine ab (yC rfl (fun hp=>al ?_) fun hp=>eC ?_)
      .have y3:aiv c l b=false:=by
        rw[C,hob];revert hp;cases g.iter<;>cases fb<;>simp
       rw[BC y3];refine SS ?_;exact ab (bh (bR (dp (aY (ap rfl rfl)))))
      .have U:aiv c l b=true:=by
        rw[C,hob];revert hp;cases g.iter<;>cases fb<;>simp
       show aw prog nL (Z agW 17) false [] _ (Z agW 17).toList _ [];refine af ?_;refine ab (bD (k+1,_) (aq eH) ⟨oM,yW U⟩ oM)
     have M:¬ x.kind=7:=by simpa using M
     rw[if_neg M] at C;refine ws ?_;refine af ?_;refine ab (yC rfl (fun O=>?_) fun O=>?_)
     .have O:x.kind=8:=by simpa using O
      rw[if_pos O] at C;obtain⟨Bq,u6⟩:=ajN O;have aiO:=aiO (c:=c) (l:=l) (r:=x.a) hl fI;cases eD:aiN c l x.a with
      |none=>
       rw[eD] at aiO;have U:aiv c l b=true:=by rw[C];unfold aiT;rw[eD]
       refine aE ?_;refine a7 ?_;refine cl aiO ?_;refine cY ?_;refine ab ⟨_,sj (i:=nx+1+1+1) (cs:=aiL) (e:=26) (au _ _ _) (l:=[(1,agU l),(2,.pt (bu agV agV c)),(14,gl c.blocks),(15,I c.blocks.length),(16,I k),(7,.pt (bA x)),(10,.pt aiL),(11,B false)]) ⟨rfl,rfl,rfl,rfl,rfl,rfl,aiD,rfl,trivial⟩,eF ajn ?_⟩;refine fS ?_;(iterate 2 refine z fun _ _=>?_);refine af ?_;refine z fun _ _=>?_;refine SS ?_;refine bX bY (akG (eC ?_));show aw prog nL (Z agW 17) false [] _ (Z agW 17).toList _ [];refine af ?_;refine ab (bD (k+1,_) (aq eH) ⟨oM,yW U⟩ oM)
      |some g'=>
       rw[eD] at aiO;have zq:aiT c l x= !(aiu c.ag x.b !=g'.result):=by unfold aiT;rw[eD]
       obtain⟨bn,hbn⟩:∃ bn:Nat,x.b=bn:=⟨x.b.toNat,oG⟩
       obtain⟨u,hu⟩:∃ u,c.ag[bn]? =some u:=⟨_,bB oG⟩
       obtain⟨kd,a,bb,to,gP,nm,ins,args,aJ,oth⟩:=x;dsimp only at*
       subst hbn;have hku:aiu c.ag (bn:Int)=u:=by simp[aiu,eg,hu]
       refine aE ?_;refine a7 ?_;refine cl aiO ?_;refine cY ?_;refine ab ⟨_,sj (i:=nx+1+1+1) (cs:=a6 g') (e:=26) (au _ _ _) (l:=[(1,agU l),(2,.pt (bu agV agV c)),(14,gl c.blocks),(15,I c.blocks.length),(16,I k),(7,.pt (bA ⟨kd,a,(bn:Int),to,gP,nm,ins,args,aJ,oth⟩)),(10,.pt (a6 g')),(11,B true)]) ⟨rfl,rfl,rfl,rfl,rfl,rfl,aiD,rfl,trivial⟩,eF ajn ?_⟩;refine SN9 ?_;refine a7 ?_;refine bX bY (yC rfl (fun hp=>al ?_) fun hp=>eC ?_)
       .have y3:aiv c l b=false:=by
         rw[C,zq,hku];simpa using hp
        rw[BC y3];refine SS ?_;exact ab (bh (bR (dp (aY (ap rfl rfl)))))
       .have U:aiv c l b=true:=by
         rw[C,zq,hku];simpa using hp
        show aw prog nL (Z agW 17) false [] _ (Z agW 17).toList _ [];refine af ?_;refine ab (bD (k+1,_) (aq eH) ⟨oM,yW U⟩ oM)
     .have O:¬ x.kind=8:=by simpa using O
      have U:aiv c l b=true:=by rw[C,if_neg O]
      refine eC ?_;show aw prog nL (Z agW 17) false [] _ (Z agW 17).toList _ [];refine af ?_;refine ab (bD (k+1,_) (aq eH) ⟨oM,yW U⟩ oM)
  .have bL:¬ k<c.blocks.length:=by simpa using h
   exact⟨nx,aq trivial,fun j y hy=>hinv j y (by have:=(bZ.1 hy).1;omega) hy⟩
 .rintro s ⟨nx,hg,bT⟩
  have hf:aiK c l=true:=by
   unfold aiK;rw[b7];intro y hy;obtain⟨j,hj⟩:=dY hy;exact bT j y hj
  rw[hf];refine⟨_,hg,al ?_⟩;refine SS ?_;exact ab (ap rfl rfl)
theorem k19{l:List bd}(hc:(∀ f∈l,vU f=0)->∀ f∈l,ajo f l)(hlen:l.length<=1000000):ax prog 19 [agU l] (.bp [I (ait l).1,I (ait l).2]):=by
 refine bP ak9 (.cons (aiJ l) .nil) (.bp (.cons (.s _) (.cons (.s _) .nil))) ?_;rw[ak'];refine ws ?_;refine af ?_;refine ab (aV (al ?_));refine aB ?_;refine ab (dI rfl (fun h=>aV (al ?_)) fun h=>dL (aV (aE ?_)))
 .have h:60<l.length:=by
   have:(60:Int)<l.length:=by simpa using h
   omega
  have he:ait l=(0,2):=by unfold ait;rw[if_pos h]
  rw[he];refine af ?_;exact ab (fN (R9 rfl rfl rfl))
 have M:¬ 60<l.length:=by
  have:¬ (60:Int)<l.length:=by simpa using h
  omega
 clear h;refine aB ?_
 refine ab (dA (fun s=>(∃ nx,aR prog s ⟨aH [(0,agU l)],fun _=>none,nx⟩)/\∀ j,j<l.length->air l j=0) (iK (α:=Nat×Nat) (fun s=>⟨aH [(0,agU l),(12,agU l),(13,I l.length),(14,I s.1)],fun _=>none,s.2⟩)
  (fun s=>s.1<=l.length/\∀ j,j<s.1->air l j=0) (fun s=>l.length - s.1) (0,0) (aq eH) ⟨Nat.zero_le _,fun j hj=>by omega⟩ ?_) ?_)
 .rintro⟨k,nx⟩ ⟨hk,hinv⟩;dsimp only at hk hinv ⊢;refine SS ?_;refine ab ⟨_,rfl,fun h=>?_,fun h=>?_⟩
  .have aj:k<l.length:=by simpa using h
   clear h;obtain⟨f,hf⟩:∃ f,l[k]? =some f:=⟨_,bB aj⟩
   have BH:=BH (f:=f);have C:air l k=if vU f=0 then(if decide (0<k)&&ai8 (ai4 l (k - 1)) f.name then 1 else 0) else vU f:=by unfold air;rw[hf]
   have pz:air l k≠0->ait l=(↑k,air l k):=fun h=>by
    unfold ait;rw[if_neg M,ajk aj (by simpa using h) fun j hj=>by simp[hinv j hj]]
   refine aE ?_;refine cY ?_;refine ab ⟨_,sj (i:=nx) (cs:=a6 f) (e:=26) (au _ _ _) (l:=[(0,agU l),(12,agU l),(13,I l.length),(14,I k),(4,I k),(5,.pt (a6 f))]) ⟨rfl,rfl,rfl,rfl,rfl,aiD,trivial⟩,aV (al ?_)⟩;generalize vU f=e at BH C;refine SS ?_;refine cl BH ?_;refine SS ?_;refine ab (aV (al ?_));refine af ?_;refine ab (dI rfl (fun h=>aV (al ?_)) fun h=>dL (eF aj5 ?_))
   .have h:e≠0:=by simpa using h
    rw[if_neg h] at C;rw[pz (by rw[C];exact h),C];refine a7 ?_;exact ab (fN (dp (aY (R9 rfl rfl rfl))))
   have h:e=0:=by simpa using h
   rw[if_pos h] at C;clear h BH
   have yW:air l k=0->∀ j,j<k+1->air l j=0:=fun h j hj=>by
    by_cases e:j=k
    .subst e;exact h
    .exact hinv j oG
   cases k with
   |zero=>
    have hz:air l 0=0:=by rw[C];simp
    refine cY ?_;(iterate 3 refine z fun _ _=>?_);refine af ?_;refine z fun _ _=>?_;refine SS ?_;refine bX bY (akG (eC ?_));refine af ?_;exact ab (bD (0+1,_) (aq eH) ⟨oM,yW hz⟩ oM)
   |succ k'=>
    obtain⟨U,hfp⟩:∃ U,l[k']? =some U:=⟨_,bB oG⟩
    have X:ai4 l (k'+1 - 1)=U.name:=by unfold ai4;rw[Nat.add_sub_cancel,hfp]
    rw[X] at C;have wC:(((k'+1:Nat):Int) - 1=(k':Int))/\ -9223372036854775808<=(k':Int)/\(k':Int)<=9223372036854775807:=by omega
    have s7:decide ((0:Int)<((k'+1:Nat):Int))=true:=by simp
    refine SN9 ?_;refine a7 ?_;refine bX bY (yC rfl (fun hp=>al ?_) fun hp=>eC ?_)
    .have h1:air l (k'+1)=1:=by
      rw[C,if_pos];simpa[ai8] using hp
     rw[pz (by rw[h1];decide),h1];refine aB ?_;exact ab (bh (dp (aY (R9 rfl rfl rfl))))
    .have hz:air l (k'+1)=0:=by
      rw[C,if_neg];simpa[ai8] using hp
     refine af ?_;exact ab (bD (k'+1+1,_) (aq eH) ⟨oM,yW hz⟩ oM)
  .have bL:¬ k<l.length:=by simpa using h
   exact⟨⟨nx,aq eH⟩,fun j hj=>hinv j oG⟩
 .rintro s ⟨⟨nx,hg⟩,bT⟩
  have w9:∀ f∈l,vU f=0:=fun f hf=>by
   obtain⟨j,hj⟩:=dY hf;have dZ:=(bZ.1 hj).1;have h1:=bT j dZ;unfold air at h1;rw[hj] at h1;dsimp only at h1;by_cases h2:vU f=0
   .exact h2
   .rw[if_neg h2] at h1;exact absurd h1 h2
  have hc:=hc w9;have uZ:(range l.length).find? (fun i=>air l i !=0)=none:=ajl fun j hj=>by simp[bT j hj]
  refine⟨_,hg,aV (aE ?_)⟩;clear hg;refine aB ?_
  refine ab (dA (fun s=>(∃ nx,aR prog s ⟨aH [],fun _=>none,nx⟩)/\∀ j,j<l.length->aiE l j=false) (iK (α:=Nat×Nat) (fun s=>⟨aH [(0,agU l),(40,agU l),(41,I l.length),(42,I s.1)],fun _=>none,s.2⟩)
   (fun s=>s.1<=l.length/\∀ j,j<s.1->aiE l j=false) (fun s=>l.length - s.1) (0,nx) (aq eH) ⟨Nat.zero_le _,fun j hj=>by omega⟩ ?_) ?_)
  .rintro⟨k,nx⟩ ⟨hk,hinv⟩;dsimp only at hk hinv ⊢;refine SS ?_;refine ab ⟨_,rfl,fun h=>?_,fun h=>?_⟩
   .have aj:k<l.length:=by simpa using h
    clear h;obtain⟨f,hf⟩:∃ f,l[k]? =some f:=⟨_,bB aj⟩
    have k72:=k72 (hc f (cX hf));have J:aiE l k= !aiK f l:=by unfold aiE;rw[hf]
    refine aE ?_;refine cY ?_;refine ab ⟨_,sj (i:=nx) (cs:=a6 f) (e:=26) (au _ _ _) (l:=[(0,agU l),(40,agU l),(41,I l.length),(42,I k),(7,I k),(8,.pt (a6 f))]) ⟨rfl,rfl,rfl,rfl,rfl,aiD,trivial⟩,al ?_⟩;generalize aiK f l=cb at k72 J;refine aB ?_;refine cl k72 ?_;refine SS ?_;refine ab (yC rfl (fun hp=>al ?_) fun hp=>eC ?_)
    .have J:aiE l k=true:=by rw[J];simpa using hp
     have hr:ait l=(↑k,82):=by
      unfold ait;rw[if_neg M,uZ,ajk aj J hinv]
     rw[hr];refine aB ?_;exact ab (bh (dp (aY (R9 rfl rfl rfl))))
    .have J:aiE l k=false:=by rw[J];simpa using hp
     refine af ?_;refine ab (bD (k+1,_) (aq eH) ⟨oM,fun j hj=>?_⟩ oM);by_cases e:j=k
     .subst e;exact J
     .exact hinv j (by dsimp only at hj;omega)
   .have bL:¬ k<l.length:=by simpa using h
    exact⟨⟨nx,aq trivial⟩,fun j hj=>hinv j oG⟩
  .rintro s ⟨⟨nx,hg⟩,O⟩
   have hr:ait l=(0,0):=by
    unfold ait;rw[if_neg M,uZ,ajl O]
   rw[hr];refine⟨_,hg,al ?_⟩;refine af ?_;exact ab (R9 rfl rfl rfl)
theorem k83{l:List bd}{s:ByteArray}:ax prog 83 [agU l,S s] (I (named l s)):=by
 unfold named;refine qH ajO.he (.cons (aiJ l) (.cons (.s _) .nil)) fun J=>?_;have hlen:=(J (agU l) oS).sl.1;unfold maxLen at hlen;refine bP ajO (.cons (aiJ l) (.cons (.s _) .nil)) (Tr.s _) ?_;rw[ala];refine ws ?_;refine SS ?_;refine ab (aV (aE ?_));refine SS ?_
 refine ab (dA (fun st=>(∃ nx,aR prog st ⟨aH [],fun _=>none,nx⟩)/\∀ (j:Nat) g,l[j]? =some g->(g.name.toList==s.toList)=false) (eX (α:=Nat) (fun k=>⟨aH [(0,agU l),(1,S s),(5,I k)],fun _=>none,0⟩)
  (fun k=>k<=l.length/\∀ j g,j<k->l[j]? =some g->(g.name.toList==s.toList)=false) (fun k=>l.length - k) 0 (aq eH) ⟨oG,fun j g hj=>by omega⟩ ?_) ?_)
 .rintro k ⟨hk,C⟩;refine a7 ?_;refine ab ⟨_,rfl,fun h=>?_,fun h=>?_⟩
  .have aj:k<l.length:=by simpa using h
   obtain⟨x,hx⟩:∃ x,l[k]? =some x:=⟨_,bB aj⟩
   refine ws ?_;refine fS ?_;refine ab (yC rfl (fun hp=>al ?_) fun hp=>eC ?_)
   .refine af ?_;refine ab (bh (dp (aY (ap rfl ?_))));rw[E8 hx hp C];rfl
   .show aw _ _ _ _ _ _ _ _ _;refine aB ?_;refine ab (bD (k+1) (aq eH) ⟨oG,fun j g hj hg=>?_⟩ oG);by_cases e:j=k
    .subst e;rw[hx] at hg;cases hg;exact hp
    .exact C j g oG hg
  .have M:¬ k<l.length:=by simpa using h
   exact⟨⟨0,aq trivial⟩,fun j g hg=>C j g (by have:=(bZ.1 hg).1;omega) hg⟩
 .rintro st ⟨⟨nx,hg⟩,C⟩;refine⟨_,hg,al ?_⟩;refine SS ?_;refine ab (ap rfl ?_);rw[E' C];rfl
theorem k73{f:bd}{l:List bd}(hc:ajo f l)(rO:∀ b∈f.blocks,b.fin.kind=6-> -1<=b.fin.a):ax prog 73 [agU l,.agg (a6 f)] (B (ai2 l f)):=by
 have hl:=hc.len;have fI:=hc.ajM;refine bP alb (.cons (aiJ l) (.cons (.agg (oY f)) .nil)) (.s _) ?_;rw[alc];refine aE ?_;refine af ?_;refine ab (bj (cr [(0,a6 f,26)] eH (l:=[(0,agU l),(3,.pt (a6 f))]) eH) (aV (aE ?_)));refine SS ?_
 refine ab (dA (fun s=>(∃ nx,aR prog s ⟨aH [],fun _=>none,nx⟩)/\∀ (j:Nat) y,f.blocks[j]? =some y->aix l f y.fin=true) (eX (α:=Nat×Nat) (fun s=>⟨aH [(0,agU l),(3,.pt (a6 f)),(5,I s.1)],fun _=>none,s.2⟩)
  (fun s=>s.1<=f.blocks.length/\∀ j y,j<s.1->f.blocks[j]? =some y->aix l f y.fin=true) (fun s=>f.blocks.length - s.1) (0,1) (aq eH) ⟨Nat.zero_le _,fun j y hj=>by omega⟩ ?_) ?_)
 .rintro⟨k,nx⟩ ⟨hk,hinv⟩;dsimp only at hk hinv ⊢;refine bH ?_;refine ab ⟨_,rfl,fun h=>?_,fun h=>?_⟩
  .have aj:k<f.blocks.length:=by simpa using h
   clear h;obtain⟨b,hb⟩:∃ b,f.blocks[k]? =some b:=⟨_,bB aj⟩
   have oA:=cX hb;have HJ:=hc.args b oA;have hcA:=hc.a b oA;have hcL:=rO b oA
   have BC:aix l f b.fin=false->ai2 l f=false:=fun h=>by
    unfold ai2;rw[List.all_eq_false];exact⟨b,oA,by simp[h]⟩
   have yW:aix l f b.fin=true->∀ j y,j<k+1->f.blocks[j]? =some y->aix l f y.fin=true:=fun h j y hj hy=>by
    by_cases e:j=k
    .subst e;rw[hb] at hy;cases hy;exact h
    .exact hinv j y oG hy
   refine aE ?_;refine cT ?_;refine ab ⟨_,sj (i:=nx) (cs:=bA b.fin) (e:=48) (au _ _ _) (l:=[(0,agU l),(3,.pt (a6 f)),(5,I k),(6,.pt (bA b.fin))]) ⟨rfl,rfl,rfl,aiD,trivial⟩,aV (al ?_)⟩;generalize b.fin=x at*
   refine cT ?_;refine ab (dI rfl (fun hp=>sd (Ay ?_)) fun hp=>dL (al ?_))
   .have M:aix l f x=true:=by
     unfold aix;rw[if_neg];revert hp;by_cases h6:x.kind=6<;>by_cases h7:x.kind=7<;>simp[h6,h7]
    refine aB ?_;exact ab (bD (k+1,_) (aq eH) ⟨oM,yW M⟩ oM)
   have U:x.kind=6\/x.kind=7:=by
    revert hp;by_cases h6:x.kind=6<;>by_cases h7:x.kind=7<;>simp[h6,h7]
   clear hp;have k83:=k83 (l:=l) (s:=x.name);rcases ajF l x.name with⟨hn,hf⟩|⟨i,g,hn,hg,hf⟩
   .rw[hn] at k83;have y3:aix l f x=false:=by unfold aix;rw[if_pos U,hf]
    rw[BC y3];refine aB ?_;refine cl k83 ?_;refine SS ?_;refine ab (aV (eF ajH ?_));refine aB ?_;(iterate 9 refine z fun _ _=>?_);refine af ?_;(iterate 9 refine z fun _ _=>?_);refine SS ?_;refine bX bY (yx (aV (al ?_)));refine SS ?_;exact ab (fN (dp (aY (ap rfl rfl))))
   rw[hn] at k83;have qz:=(bZ.1 hg).1;have hgl:=cX hg;have D3:=hc.fl g hgl;have J:aix l f x=aiQ f g x:=by unfold aix;rw[if_pos U,hf]
   obtain⟨HJ,rR⟩:=HJ U;refine aB ?_;refine cl k83 ?_;refine SS ?_;refine ab (aV (eF ajH ?_));have uF:decide ((i:Int)<0)=false:=decide_eq_false oG;refine SN9 ?_;refine af ?_;refine bQ rfl rfl (aka rfl rfl) (fun hc=>⟨ak,V.h⟩) ?_;refine SN9 ?_;refine aB ?_;refine bX bY (dI rfl (fun hp=>aV (al ?_)) fun hp=>dL (aV (aE ?_)))
   .have y3:aix l f x=false:=by
     rw[J];revert hp;unfold aiQ;by_cases h1:g.iter=(x.kind==7)<;>by_cases h2:g.args=x.args.length<;>simp[h1,h2]
    rw[BC y3];refine SS ?_;exact ab (fN (dp (aY (ap rfl rfl))))
   clear uF
   obtain⟨hgi,hga⟩:g.iter=(x.kind==7)/\g.args=x.args.length:=by
    revert hp;by_cases h1:g.iter=(x.kind==7)<;>by_cases h2:g.args=x.args.length<;>simp[h1,h2]
   clear hp;refine SS ?_
   refine ab (dA (fun s=>(∃ nx,aR prog s ⟨aH [(0,agU l),(3,.pt (a6 f)),(5,I k),(6,.pt (bA x)),(7,I i)],fun _=>none,nx⟩)/\(range x.args.length).all (aiG f g x.args)=true) (eX (α:=Nat)
    (fun j=>⟨aH [(0,agU l),(3,.pt (a6 f)),(5,I k),(6,.pt (bA x)),(7,I i),(8,I j)],fun _=>none,nx+1⟩)
    (fun j=>j<=x.args.length/\∀ m,m<j->aiG f g x.args m=true) (fun j=>x.args.length - j) 0 (aq eH) ⟨Nat.zero_le _,fun m hm=>by omega⟩ ?_) ?_)
   .rintro j ⟨hj,X⟩;refine bH ?_;refine ab ⟨_,rfl,fun h=>?_,fun h=>?_⟩
    .have dZ:j<x.args.length:=by simpa using h
     clear h;obtain⟨r,hr⟩:∃ r,x.args[j]? =some r:=⟨_,bB dZ⟩
     have hr2:=HJ r (cX hr);obtain⟨rn,rfl⟩:∃ rn:Nat,r=rn:=⟨r.toNat,oG⟩
     obtain⟨u,hu⟩:∃ u,f.ag[rn]? =some u:=⟨_,bB oG⟩
     obtain⟨v,hv⟩:∃ v,g.ag[j]? =some v:=⟨_,bB oG⟩
     have hfa:aiG f g x.args j=(u==v):=by
      unfold aiG aiu;simp[eg,hr,hu,hv]
     refine eF ajZ ?_;refine SN9 ?_;refine SN9 ?_;refine bX bY (yC rfl (fun hp=>al ?_) fun hp=>eC ?_)
     .have y3:aix l f x=false:=by
       rw[J]
       have:(range x.args.length).all (aiG f g x.args)=false:=by
        rw[List.all_eq_false];refine⟨j,List.mem_range.2 dZ,?_⟩;rw[hfa];simpa using hp
       unfold aiQ;rw[this];simp
      rw[BC y3];refine SS ?_;exact ab (bh (dp (aY (dp (aY (ap rfl rfl))))))
     .show aw _ _ _ _ _ _ _ _ _;refine aB ?_;refine ab (bD (j+1) (aq eH) ⟨oG,fun m hm=>?_⟩ oG);by_cases e:m=j
      .subst e;rw[hfa];simpa using hp
      .exact X m oG
    .have bL:¬ j<x.args.length:=by simpa using h
     refine⟨⟨nx+1,aq eH⟩,?_⟩;rw[b7];intro m hm;exact X m (by have:=List.mem_range.1 hm;omega)
   rintro s ⟨⟨iC,hg2⟩,ajK⟩;refine⟨_,hg2,aV (eF aj0 ?_)⟩;clear hg2;obtain⟨kd,a,bb,to,gP,nm,ins,args,aJ,C⟩:=x;dsimp only at*
   have hC:aiQ f g ⟨kd,a,bb,to,gP,nm,ins,args,aJ,C⟩=(!(kd==6&&(a != -1&&(aiu f.ag a !=g.result)))&&(kd==6||f.blocks.all fun c=>aiC f g ⟨kd,a,bb,to,gP,nm,ins,args,aJ,C⟩ c.fin)):=by
    unfold aiQ;dsimp only;rw[ajK,hgi,hga];simp
   rw[hC] at J;clear hC ajK;rcases U with rfl|rfl
   .have J:aix l f ⟨6,a,bb,to,gP,nm,ins,args,aJ,C⟩= !(a != -1&&(aiu f.ag a !=g.result)):=by rw[J];simp
    have hcA:=hcA rfl;have hcL:=hcL rfl;by_cases ha:a= -1
    .subst ha;have M:aix l f ⟨6, -1,bb,to,gP,nm,ins,args,aJ,C⟩=true:=J.trans oS;refine SN9 ?_;(iterate 12 refine z fun _ _=>?_);refine SS ?_;refine bX bY (yw (dL (aV (al ?_))));refine aB ?_;refine ab (yx (sd (Ay ?_)));refine aB ?_;exact ab (bD (k+1,_) (aq eH) ⟨oM,yW M⟩ oM)
    .obtain⟨an,rfl⟩:∃ an:Nat,a=an:=⟨a.toNat,oG⟩
     obtain⟨u,hu⟩:∃ u,f.ag[an]? =some u:=⟨_,bB oG⟩
     have uG:((an:Int) != -1)=true:=by simpa using ha
     have hku:aiu f.ag (an:Int)=u:=by simp[aiu,eg,hu]
     rw[uG,hku,Bool.true_and] at J;refine SN9 ?_;refine SN9 ?_;refine a7 ?_;refine bX bY (dI rfl (fun hp=>aV (al ?_)) fun hp=>dL (aV (al ?_)))
     .rw[BC (J.trans (by simpa using hp))];refine SS ?_;exact ab (fN (dp (aY (ap rfl rfl))))
     .have M:aix l f ⟨6,(an:Int),bb,to,gP,nm,ins,args,aJ,C⟩=true:=J.trans (by simpa using hp);refine aB ?_;refine ab (yx (sd (Ay ?_)));refine aB ?_;exact ab (bD (k+1,_) (aq eH) ⟨oM,yW M⟩ oM)
   .have J:aix l f ⟨7,a,bb,to,gP,nm,ins,args,aJ,C⟩=f.blocks.all fun c=>aiC f g ⟨7,a,bb,to,gP,nm,ins,args,aJ,C⟩ c.fin:=by rw[J];simp
    refine a7 ?_;(iterate 3 refine z fun _ _=>?_);refine af ?_;(iterate 12 refine z fun _ _=>?_);refine SS ?_;refine bX bY (yw (dL (aV (al ?_))));refine aB ?_;refine ab (yw (dL (aE ?_)));refine SS ?_;obtain⟨x,hx⟩:∃ x:Argus.End,x=⟨7,a,bb,to,gP,nm,ins,args,aJ,C⟩:=⟨_,rfl⟩;rw[<- hx] at J yW BC
    have hxa:x.a=a:=by rw[hx]
    refine ab (eX (α:=Nat×Nat)
     (fun s=>⟨aH [(0,agU l),(3,.pt (a6 f)),(5,I k),(6,.pt (bA x)),(7,I i),(9,I s.1)],fun _=>none,s.2⟩)
     (fun s=>s.1<=f.blocks.length/\∀ m y,m<s.1->f.blocks[m]? =some y->aiC f g x y.fin=true) (fun s=>f.blocks.length - s.1) (0,iC) (aq ⟨rfl,rfl,rfl,congrArg (fun x=>D.pt (bA x)) hx.symm,rfl,rfl,trivial⟩) ⟨Nat.zero_le _,fun m y hm=>by omega⟩ ?_)
    rintro⟨c,Nq⟩ ⟨cF,X⟩;dsimp only at cF X ⊢;refine bH ?_;refine ab ⟨_,rfl,fun h=>?_,fun h=>?_⟩
    .have cF:c<f.blocks.length:=by simpa using h
     clear h;obtain⟨O,gv⟩:∃ O,f.blocks[c]? =some O:=⟨_,bB cF⟩
     have hcm:=cX gv;have hcB:=hc.b O hcm
     have pz:aiC f g x O.fin=false->ai2 l f=false:=fun h=>BC (by
      rw[J,List.all_eq_false]
      exact⟨O,hcm,by simp[h]⟩)
     have c7:aiC f g x O.fin=true->∀ m y,m<c+1->f.blocks[m]? =some y->aiC f g x y.fin=true:=fun h m y hm hy=>by
      by_cases e:m=c
      .subst e;rw[gv] at hy;cases hy;exact h
      .exact X m y oG hy
     refine aE ?_;refine cT ?_;refine ab ⟨_,sj (i:=Nq) (cs:=bA O.fin) (e:=48) (au _ _ _) (l:=[(0,agU l),(3,.pt (a6 f)),(5,I k),(6,.pt (bA x)),(7,I i),(9,I c),(10,.pt (bA O.fin))]) ⟨rfl,rfl,rfl,rfl,rfl,rfl,aiD,trivial⟩,eF aj1 ?_⟩;generalize O.fin=y at*
     have hN:aiC f g x y= !(y.kind==8&&(y.a==x.a&&(aiu f.ag y.b !=g.result))):=rfl;by_cases k8:y.kind=8
     .have hcB:=hcB k8;have hN:aiC f g x y= !(y.a==x.a&&(aiu f.ag y.b !=g.result)):=by rw[hN,k8];rfl
      obtain⟨kd,a',bb',to',ang,nm',anh,iS,anf,ani⟩:=y;dsimp only at*
      subst k8;obtain⟨bn,rfl⟩:∃ bn:Nat,bb'=bn:=⟨bb'.toNat,oG⟩
      obtain⟨u,hu⟩:∃ u,f.ag[bn]? =some u:=⟨_,bB oG⟩
      have hku:aiu f.ag (bn:Int)=u:=by simp[aiu,eg,hu]
      rw[hku] at hN;by_cases hea:a'=x.a
      .have iO:(a'==x.a)=true:=by simpa using hea
       rw[iO,Bool.true_and] at hN;refine SN9 ?_;refine SN9 ?_;refine cY ?_;refine bX bY (yC rfl (fun hp=>al ?_) fun hp=>eC ?_)
       .rw[pz (hN.trans (by simpa using hp))];refine SS ?_;exact ab (bh (dp (dp (aY (ap rfl rfl)))))
       .have M:aiC f g x _=true:=hN.trans (by simpa using hp);show aw _ _ _ _ _ _ _ _ _;refine aB ?_;exact ab (bD (c+1,_) (aq eH) ⟨oM,c7 M⟩ oM)
      .have iO:(a'==x.a)=false:=by simpa using hea
       have M:aiC f g x _=true:=hN.trans (by simp[iO]);refine SN9 ?_;refine af ?_;(iterate 12 refine z fun _ _=>?_);refine SS ?_;refine bX bY (yC rfl (fun h=>oH) fun hp=>eC ?_);show aw _ _ _ _ _ _ _ _ _;refine aB ?_;exact ab (bD (c+1,_) (aq eH) ⟨oM,c7 M⟩ oM)
     .have iO:(y.kind==8)=false:=by simpa using k8
      have M:aiC f g x _=true:=hN.trans (by simp[iO]);refine a7 ?_;(iterate 5 refine z fun _ _=>?_);refine af ?_;(iterate 12 refine z fun _ _=>?_);refine SS ?_;refine bX bY (yC rfl (fun h=>oH) fun hp=>eC ?_);show aw _ _ _ _ _ _ _ _ _;refine aB ?_;exact ab (bD (c+1,_) (aq eH) ⟨oM,c7 M⟩ oM)
    .have bL:¬ c<f.blocks.length:=by simpa using h
     have M:aix l f x=true:=by
      rw[J,b7];intro zQ hz;obtain⟨m,hm⟩:=dY hz;exact X m zQ (by have:=(bZ.1 hm).1;omega) hm
     show aw _ _ _ _ _ _ _ _ _;refine aB ?_;exact ab (bD (k+1,_) (aq eH) ⟨oM,yW M⟩ oM)
  .have bL:¬ k<f.blocks.length:=by simpa using h
   exact⟨⟨nx,aq trivial⟩,fun j y hy=>hinv j y (by have:=(bZ.1 hy).1;omega) hy⟩
 .rintro s ⟨⟨nx,hg⟩,X⟩
  have hr:ai2 l f=true:=by
   unfold ai2;rw[b7];intro b hb;obtain⟨j,hj⟩:=dY hb;exact X j b hj
  rw[hr];refine⟨_,hg,al ?_⟩;refine SS ?_;exact ab (ap rfl rfl)
theorem k20{l:List bd}(hF:ajL l):ax prog 20 [agU l] (.bp [I (ait l).1,I (ait l).2]):=by
 have hlen:=hF.len;refine bP ald (.cons (aiJ l) .nil) (.bp (.cons (.s _) (.cons (.s _) .nil))) ?_;rw[ale];refine ws ?_;refine af ?_;refine ab (aV (al ?_));refine aB ?_;refine ab (dI rfl (fun h=>aV (al ?_)) fun h=>dL (aV (aE ?_)))
 .have h:60<l.length:=by
   have:(60:Int)<l.length:=by simpa using h
   omega
  have he:ait l=(0,2):=by unfold ait;rw[if_pos h]
  rw[he];refine af ?_;exact ab (fN (R9 rfl rfl rfl))
 have M:¬ 60<l.length:=by
  have:¬ (60:Int)<l.length:=by simpa using h
  omega
 clear h;refine SS ?_
 refine ab (dA (fun s=>(∃ nx,aR prog s ⟨aH [(0,agU l)],fun _=>none,nx⟩)/\∀ j,j<l.length->air l j=0) (eX (α:=Nat) (fun k=>⟨aH [(0,agU l),(4,I k)],fun _=>none,0⟩)
  (fun k=>k<=l.length/\∀ j,j<k->air l j=0) (fun k=>l.length - k) 0 (aq eH) ⟨Nat.zero_le _,fun j hj=>by omega⟩ ?_) ?_)
 .rintro k ⟨hk,hinv⟩;refine a7 ?_;refine ab ⟨_,rfl,fun h=>?_,fun h=>?_⟩
  .have aj:k<l.length:=by simpa using h
   clear h;obtain⟨f,hf⟩:∃ f,l[k]? =some f:=⟨_,bB aj⟩
   have O:=cX hf;have BI:=BI (f:=f) (hF.str f O) (hF.whs f O);have C:air l k=if vU f=0 then(if decide (0<k)&&ai8 (ai4 l (k - 1)) f.name then 1 else 0) else vU f:=by unfold air;rw[hf]
   have pz:air l k≠0->ait l=(↑k,air l k):=fun h=>by
    unfold ait;rw[if_neg M,ajk aj (by simpa using h) fun j hj=>by simp[hinv j hj]]
   refine aE ?_;generalize vU f=e at BI C;refine a7 ?_;refine cl BI ?_;refine SS ?_;refine ab ⟨_,.refl _,aV (al ?_)⟩;refine af ?_;refine ab (dI rfl (fun h=>aV (al ?_)) fun h=>dL (eF aj6 ?_))
   .have h:e≠0:=by simpa using h
    rw[if_neg h] at C;rw[pz (by rw[C];exact h),C];refine a7 ?_;exact ab (fN (dp (aY (R9 rfl rfl rfl))))
   have h:e=0:=by simpa using h
   rw[if_pos h] at C;clear h BI
   have yW:air l k=0->∀ j,j<k+1->air l j=0:=fun h j hj=>by
    by_cases e:j=k
    .subst e;exact h
    .exact hinv j oG
   cases k with
   |zero=>
    have hz:air l 0=0:=by rw[C];simp
    refine cY ?_;(iterate 3 refine z fun _ _=>?_);refine bH ?_;refine z fun _ _=>?_;refine SS ?_;refine bX bY (akG (eC ?_));show aw _ _ _ _ _ _ _ _ _;refine aB ?_;exact ab (bD (0+1) (aq eH) ⟨oG,yW hz⟩ oG)
   |succ k'=>
    obtain⟨fp,hfp⟩:∃ fp,l[k']? =some fp:=⟨_,bB oG⟩
    have han:ai4 l (k'+1 - 1)=fp.name:=by unfold ai4;rw[Nat.add_sub_cancel,hfp]
    rw[han] at C;have wC:(((k'+1:Nat):Int) - 1=(k':Int))/\ -9223372036854775808<=(k':Int)/\(k':Int)<=9223372036854775807:=by omega
    have s7:decide ((0:Int)<((k'+1:Nat):Int))=true:=by simp
    refine SN9 ?_;refine fS ?_;refine bX bY (yC rfl (fun hp=>al ?_) fun hp=>eC ?_)
    .have h1:air l (k'+1)=1:=by
      rw[C,if_pos];simpa[ai8] using hp
     rw[pz (by rw[h1];decide),h1];refine aB ?_;exact ab (bh (dp (aY (R9 rfl rfl rfl))))
    .have hz:air l (k'+1)=0:=by
      rw[C,if_neg];simpa[ai8] using hp
     show aw _ _ _ _ _ _ _ _ _;refine aB ?_;exact ab (bD (k'+1+1) (aq eH) ⟨oG,yW hz⟩ oG)
  .have bL:¬ k<l.length:=by simpa using h
   exact⟨⟨0,aq eH⟩,fun j hj=>hinv j oG⟩
 .rintro s ⟨⟨nx,hg⟩,bT⟩
  have w9:∀ f∈l,vU f=0:=fun f hf=>by
   obtain⟨j,hj⟩:=dY hf;have dZ:=(bZ.1 hj).1;have h1:=bT j dZ;unfold air at h1;rw[hj] at h1;dsimp only at h1;by_cases h2:vU f=0
   .exact h2
   .rw[if_neg h2] at h1;exact absurd h1 h2
  have uZ:(range l.length).find? (fun i=>air l i !=0)=none:=ajl fun j hj=>by simp[bT j hj]
  refine⟨_,hg,aV (aE ?_)⟩;clear hg;refine SS ?_
  refine ab (dA (fun s=>(∃ nx,aR prog s ⟨aH [],fun _=>none,nx⟩)/\∀ j,j<l.length->aiE l j=false) (eX (α:=Nat) (fun k=>⟨aH [(0,agU l),(6,I k)],fun _=>none,nx⟩)
   (fun k=>k<=l.length/\∀ j,j<k->aiE l j=false) (fun k=>l.length - k) 0 (aq eH) ⟨Nat.zero_le _,fun j hj=>by omega⟩ ?_) ?_)
  .rintro k ⟨hk,hinv⟩;refine a7 ?_;refine ab ⟨_,rfl,fun h=>?_,fun h=>?_⟩
   .have aj:k<l.length:=by simpa using h
    clear h;obtain⟨f,hf⟩:∃ f,l[k]? =some f:=⟨_,bB aj⟩
    have O:=cX hf;have U:=Argus.checked (w9 f O);have k73:=k73 (ajz oG w9 O) fun b hb hk=>ajA U hb hk;rw[ajU U] at k73;have J:aiE l k= !aiK f l:=by unfold aiE;rw[hf]
    refine ws ?_;generalize aiK f l=cb at k73 J;refine bH ?_;refine cl k73 ?_;refine SS ?_;refine er ?_;refine af ?_;refine ab (yC rfl (fun hp=>al ?_) fun hp=>eC ?_)
    .have J:aiE l k=true:=by rw[J];simpa using hp
     have hr:ait l=(↑k,82):=by
      unfold ait;rw[if_neg M,uZ,ajk aj J hinv]
     rw[hr];refine aB ?_;exact ab (bh (dp (aY (R9 rfl rfl rfl))))
    .have J:aiE l k=false:=by rw[J];simpa using hp
     show aw _ _ _ _ _ _ _ _ _;refine aB ?_;refine ab (bD (k+1) (aq eH) ⟨oG,fun j hj=>?_⟩ oG);by_cases e:j=k
     .subst e;exact J
     .exact hinv j oG
   .have bL:¬ k<l.length:=by simpa using h
    exact⟨⟨nx,aq trivial⟩,fun j hj=>hinv j oG⟩
  .rintro s ⟨⟨nx,hg⟩,X⟩
   have hr:ait l=(0,0):=by
    unfold ait;rw[if_neg M,uZ,ajl X]
   rw[hr];refine⟨_,hg,al ?_⟩;refine af ?_;exact ab (R9 rfl rfl rfl)
theorem k4{l:List bd}(hs:∀ f∈l,CY f):ax prog 4 [agU l] (B true):=by
 refine bP ok4 (.cons (aiJ _) .nil) (Tr.s _) ?_;rw[sk4];have BG:=BG;have k18:=k18 (l:=l);refine ws ?_;refine SS ?_;refine ab (aV (al ?_));have C:=aj7 (l:=l) hs;have J:=ajI (l:=l);generalize aiW l=b at*
 cases b with
 |true=>
  have hl:=J rfl;have UI:decide ((l.length:Int)<=60)=true:=by simp;omega
  have s7:decide ((65:Int)<l.length)=false:=by simp;omega
  refine SS ?_;refine cl k18 ?_;refine SN9 ?_;refine af ?_;refine ab (yw (dL (aV (al ?_))));have s7:decide ((60:Int)<l.length)=false:=by simp;omega
  refine aB ?_;refine ab (yw (dL (al ?_)));have M:=C rfl;have k19:=k19 (l:=l) (fun h f hf=>ajz oG h hf) oG;have k20:=k20 M;generalize (ait l).1=i at k19 k20;generalize (ait l).2=e at k19 k20;refine SS ?_;refine cl k19 ?_;refine bH ?_;refine er ?_;refine SS ?_;refine cl k20 ?_;refine bH ?_;refine er ?_;refine cl BG ?_;refine a7 ?_;rw[show(i==i)=true from beq_self_eq_true _];refine bH ?_;rw[show(e==e)=true from beq_self_eq_true _];refine af ?_;exact ab (ap rfl rfl)
 |false=>
  clear C J;cases h1:decide ((l.length:Int)<=60) with
  |true=>
   have UI:=h1;refine SS ?_;refine cl k18 ?_;refine cY ?_;(iterate 3 refine z fun _ _=>?_);refine af ?_;refine ab (yx (aV (al ?_)));refine cl BG ?_;refine SS ?_;exact ab (fN (ap rfl rfl))
  |false=>
   have UI:=h1;cases h2:decide ((65:Int)<l.length) with
   |true=>
    have s7:=h2;refine SS ?_;refine cl k18 ?_;refine SN9 ?_;refine af ?_;refine ab (yx (aV (al ?_)));refine cl BG ?_;refine SS ?_;exact ab (fN (ap rfl rfl))
   |false=>
    have s7:=h2;have hlen:60<l.length/\l.length<=65:=by simp at h1 h2;omega
    refine SS ?_;refine cl k18 ?_;refine SN9 ?_;refine af ?_;refine ab (yw (dL (aV (al ?_))));have s7:decide ((60:Int)<l.length)=true:=by simp;omega
    refine aB ?_;refine ab (yx (aV (al ?_)));have k19:=k19 (l:=l) (fun h f hf=>ajz oG h hf) oG;rw[aj8 hlen.1] at k19;refine SS ?_;refine cl k19 ?_;refine bH ?_;refine ab (aV (al ?_));refine cl BG ?_;refine SN9 ?_;exact ab (fN (ap rfl rfl))
end Go.Proofs.Tryz.K
end
