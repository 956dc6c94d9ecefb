/- Part 23. -/
import Derived.Test.YtkogeiacmmckkaaGreatDoorFlowChecks18
import Derived.Test.YtkogeiacmmckkaaGreatDoorFlowChecks19
import Derived.Test.YtkogeiacmmckkaaGreatDoorFlowChecks20
import Derived.Test.YtkogeiacmmckkaaGreatDoorFlowChecks22
set_option linter.all false
set_option maxHeartbeats 4000000
set_option maxRecDepth 10000
section
open Go Go.Abs Go.Proofs Go.Argus
namespace Go.Argus
open Go.Proofs.Tryz.K (nextR)
@[simp] theorem Pt (p : Bool × D) : (ot p).length = 2 := rfl
theorem Xa{f:bd}(h:nZ f=true):∀ b∈f.blocks,jG f b.fin=true:=fun b hb=>by
 unfold nZ at h;simp only[ay] at h;obtain⟨_,_,_,C,_⟩:=h;obtain⟨k,hk⟩:=dY hb;have:=b7.1 C k (by simpa using(bZ.1 hk).1);unfold kq at this;simp only[getD_some hk,ay] at this;exact this.1
end Go.Argus
namespace Go.Proofs.Tryz.K
theorem BI{f:bd}(hs:CY f)(hw:∀ b∈f.blocks,b.fin.aJ.length<=10):ax prog 17 [.agg (a6 f)] (I (vU f)):=by
 rw[<- Y4];have BR:=BR hs hw;have HO:KV f=if tV f=true then(if(List.range f.blocks.length).all (pg f (iq f.blocks f.args.toNat))=true then 0 else 81) else 80:=rfl
 refine bP ahX (.cons (.agg (oY f)) .nil) (Tr.s _) ?_;rw[ahY,HO];clear HO;refine aE ?_;refine af ?_;refine ab (bj (cr [(0,a6 f,26)] eH (l:=[(1,.pt (a6 f))]) eH) (al ?_));cases hf:tV f with
 |false=>
  rw[hf] at BR;refine SS ?_;refine cl BR ?_;refine SS ?_;refine ab (aV (al ?_));refine af ?_;refine ab (yx ?_);refine aV (al ?_);refine SS ?_;exact ab (fN (ap rfl rfl))
 |true=>
 rw[hf] at BR;rw[if_pos rfl];rw[O2] at hf;have he:=Xa hf;have O:=T7 hf;have BT:=BT O hw;have hR:=O.ok.ag;have hS:=O.sl;have hN1:=O.ok.BJ;have xq:=xq (f:=f) rfl oG hw (fun b hb t ht=>by rw[(O.ed b hb).2] at ht;exact(O.ok.bJ b hb).to t ht)
 have V4:∀ k,k<f.blocks.length->(o0 f.blocks)[k]? =some (cw f.blocks f.blocks.length k):=fun k hk=>by
  rw[<- PK he];simp[o0,hk]
 have Ig:(o0 f.blocks).length=f.blocks.length:=by simp[o0]
 generalize o0 f.blocks=L at xq V4 Ig
 have V5:CM f (iq f.blocks f.args.toNat)=.sl ((eW f.ag.length (f.ag.length+f.aU.length) f.blocks.length (iq f.blocks f.args.toNat)).flatMap ot) (eW f.ag.length (f.ag.length+f.aU.length) f.blocks.length (iq f.blocks f.args.toNat)).length:=by
  unfold CM;rw[vA];rfl
 rw[V5] at BT;clear V5;generalize iq f.blocks f.args.toNat=RR at BT ⊢;have N5:∀ k,k<f.blocks.length->(eW f.ag.length (f.ag.length+f.aU.length) f.blocks.length RR)[k]? =some (DK (cA f.ag.length (f.ag.length+f.aU.length) RR k)):=fun k hk=>zO hk;have hCl:=vA f.ag.length (f.ag.length+f.aU.length) f.blocks.length RR;generalize eW f.ag.length (f.ag.length+f.aU.length) f.blocks.length RR=CP at BT N5 hCl;refine SS ?_;refine cl BR ?_;refine SS ?_;refine ab (aV (al ?_));refine af ?_;refine ab (yw (dL (al ?_)));refine SS ?_;refine cl BT ?_;refine SS ?_;refine er ?_;refine SS ?_;refine cl xq ?_;refine SS ?_;refine ab (aV (aE ?_));refine SS ?_
 refine ab (dA (fun s=>(∃ N,aR prog s ⟨aH [],fun _=>none,N⟩)/\(List.range f.blocks.length).all (pg f RR)=true) (eX (α:=Nat×Nat) (fun q=>⟨aH [(1,.pt (a6 f)),(4,.sl (CP.flatMap ot) CP.length),(5,di L),(6,I q.1)],fun _=>none,q.2⟩)
  (fun q=>q.1<=f.blocks.length/\(List.range q.1).all (pg f RR)=true) (fun q=>f.blocks.length - q.1) (0,1) (hP eH) ⟨Nat.zero_le _,rfl⟩ ?_) ?_)
 .rintro⟨k,N⟩ ⟨hk,bT⟩;dsimp only at hk bT ⊢;refine bH ?_;refine ab ⟨_,rfl,fun h=>?_,fun h=>?_⟩
  .have aj:k<f.blocks.length:=by simpa using h
   have hx:f.blocks[k]? =some f.blocks[k]:=bB aj;have dz:f.blocks[k]∈f.blocks:=df _;have BU:=N5 k aj;have pz:pg f RR k=false->(if(List.range f.blocks.length).all (pg f RR)=true then(0:Int) else 81)=81:=fun hq=>by rw[nU aj hq];rfl
   have xx:pg f RR k=((cA f.ag.length (f.ag.length+f.aU.length) RR k).any||((List.range f.blocks[k].ins.length).all (yY f RR k f.blocks[k].ins (cA f.ag.length (f.ag.length+f.aU.length) RR k))&&qF (eY f.ag.length f.blocks[k].ins (cA f.ag.length (f.ag.length+f.aU.length) RR k)) (cN f.blocks[k].fin))):=by
    unfold pg;simp only[getD_some hx]
   have cF:(cA f.ag.length (f.ag.length+f.aU.length) RR k).is.length=f.ag.length+f.aU.length:=IY;generalize f.blocks[k]=x at hx dz xx;generalize cA f.ag.length (f.ag.length+f.aU.length) RR k=c at BU xx cF;obtain⟨ca,C⟩:=c;refine aV (al ?_);cases ca with
   |true=>
    refine bH ?_;refine ab (dI rfl (fun h=>sd (Ay ?_)) fun h=>oH);refine aB ?_;exact ab (bD (k+1,N) (hP eH) ⟨oM,k9 bT xx⟩ oM)
   |false=>
   refine bH ?_;refine ab (dI rfl (fun h=>oH) fun h=>dL (aE ?_));rw[show({ any:=false,is:=C }:Cert).any=false from rfl,Bool.false_or] at xx;refine cY ?_;refine ab (bj (bc (l:=[(1,.pt (a6 f)),(4,.sl (CP.flatMap ot) CP.length),(5,di L),(6,I k),(7,.rp N 0)]) (ml:=[(N,.cells (cC ⟨false,C⟩) 99)]) eH ⟨au _ _ _,trivial⟩) (al ?_));refine fS ?_;have fI:=(O.ok.bJ x dz).len;have ahZ:=O.ins x dz;have yR:=O.Ia k x hx;have hAg:=V4 k aj;have ah0:=IZ (fun b hb t ht=>((O.ok.bJ b hb).to t ht).1) f.blocks.length k;have afH:=O.ok.bJ;have J:∀ y q,pj f RR k y q=pj f RR k y q:=fun _ _=>rfl;refine ab (aV (aE ?_));refine SS ?_
   refine ab (dA (fun s=>∃ N',aR prog s ⟨aH [(1,.pt (a6 f)),(4,.sl (CP.flatMap ot) CP.length),(5,di L),(6,I k),(7,.rp N 0)],cb [(N,.cells (cC (eY f.ag.length x.ins ⟨false,C⟩)) 99)],N'⟩/\N<N'/\(List.range x.ins.length).all (yY f RR k x.ins ⟨false,C⟩)=true) (eX (α:=Nat×Nat) (fun j=>⟨aH [(1,.pt (a6 f)),(4,.sl (CP.flatMap ot) CP.length),(5,di L),(6,I k),(7,.rp N 0),(8,iL x.ins),(9,I j.1)],cb [(N,.cells (cC (eY f.ag.length (x.ins.take j.1) ⟨false,C⟩)) 99)],j.2⟩)
    (fun j=>j.1<=x.ins.length/\N<j.2/\(List.range j.1).all (yY f RR k x.ins ⟨false,C⟩)=true) (fun j=>x.ins.length - j.1) (0,N+1) (bc eH ⟨au _ _ _,trivial⟩) ⟨Nat.zero_le _,Nat.lt_succ_self _,rfl⟩ ?_) ?_)
   .rintro⟨j,M⟩ ⟨hj,hM,tD⟩;dsimp only at hj hM tD ⊢;have bt:∀ y,x.ins[j]? =some y->eY f.ag.length (x.ins.take (j+1)) ⟨false,C⟩=uy f.ag.length (eY f.ag.length (x.ins.take j) ⟨false,C⟩) y:=fun y hy=>pT hy;have kM:j=x.ins.length->eY f.ag.length (x.ins.take j) ⟨false,C⟩=eY f.ag.length x.ins ⟨false,C⟩:=fun e=>by rw[e,List.take_length]
    have xu:=(B' f.ag.length (x.ins.take j) ⟨false,C⟩).trans cF;have bU:yY f RR k x.ins ⟨false,C⟩ j=(opsV f.ag.length (eY f.ag.length (x.ins.take j) ⟨false,C⟩) (x.ins.getD j ez)&&Bf f RR k (x.ins.getD j ez)):=rfl;generalize eY f.ag.length (x.ins.take j) ⟨false,C⟩=d at bt kM xu bU;refine a7 ?_;refine ab ⟨_,rfl,fun h=>?_,fun h=>?_⟩
    .have dZ:j<x.ins.length:=by simpa using h
     have hy:x.ins[j]? =some x.ins[j]:=bB dZ;have bt:=bt _ hy;rw[getD_some hy] at bU;have zG:=ahZ _ (df dZ);have rY:=yR j _ hy;have rh:yY f RR k x.ins ⟨false,C⟩ j=false->(if(List.range f.blocks.length).all (pg f RR)=true then(0:Int) else 81)=81:=fun hq=>pz (by rw[xx,nU dZ hq];rfl);generalize x.ins[j]=y at hy bt bU zG rY;refine aE ?_;refine cY ?_;refine ab (bj (tM (i:=M) (l:=[(1,.pt (a6 f)),(4,.sl (CP.flatMap ot) CP.length),(5,di L),(6,I k),(7,.rp N 0),(8,iL x.ins),(9,I j),(10,.pt (bF y))]) (ml:=[(N,.cells (cC d) 99)]) (au _ _ _) ⟨rfl,rfl,rfl,rfl,QF oG,rfl,rfl,nt,trivial⟩ ⟨Ae oG (aM oG (aM oG (au _ _ _))) rfl,trivial⟩) (fO (fun s=>aR prog s ⟨aH [(1,.pt (a6 f)),(4,.sl (CP.flatMap ot) CP.length),(5,di L),(6,I k),(7,.rp N 0),(8,iL x.ins),(9,I j),(10,.pt (bF y))],cb [(N,.cells (cC d) 99)],M+1⟩/\opsV f.ag.length d y=true) ?_ ?_))
     .have c7:=(afH x dz).ins y (cX hy);clear bt rY;obtain⟨U,yt,ya,yb,yn,yl⟩:=y;have eD:opsV f.ag.length d ⟨U,yt,ya,yb,yn,yl⟩=((U !=17||d.is.getD ((f.ag.length:Int)+yn).toNat false)&&qF d (cL ⟨U,yt,ya,yb,yn,yl⟩)):=rfl;have xm:=xm (x:=⟨U,yt,ya,yb,yn,yl⟩) (fun ho=>by have:=c7.ar ho;dsimp only at this ⊢;omega)
      have rZ:=rZ (c:=d) (rs:=cL ⟨U,yt,ya,yb,yn,yl⟩) (fun r hr=>by
       obtain⟨i,h1,h2⟩:=zG.2.r r hr
       exact⟨i,oG,h2⟩)
      generalize qF d (cL ⟨U,yt,ya,yb,yn,yl⟩)=v at rZ eD;generalize cL ⟨U,yt,ya,yb,yn,yl⟩=rs at rZ xm;have Du:opsV f.ag.length d ⟨U,yt,ya,yb,yn,yl⟩=false->I 81=I (if(List.range f.blocks.length).all (pg f RR)=true then 0 else 81):=fun hq=>by rw[rh (by rw[bU,hq];rfl)]
      refine eF Y5 ?_;by_cases ij:U=17
      .obtain⟨i,hi,e⟩:=zG.2.s ij;dsimp only at e;subst e;have V6:d.is[f.ag.length+i]? =some d.is[f.ag.length+i]:=bB oG;have iO:(U==17)=true:=by simp[ij]
       rw[show((f.ag.length:Int)+(i:Int)).toNat=f.ag.length+i by omega,getD_some V6,show(U !=17)=false by simp[ij],Bool.false_or] at eD;generalize d.is[f.ag.length+i]=b at V6 eD;have hqn:({ op:=U,to:=yt,a:=ya,b:=yb,n:=(i:Int),args:=yl }:bS).n=(i:Int):=rfl;refine bn ?_;refine af ?_;refine bQ rfl rfl (S9 rfl rfl oG) (fun hc=>⟨ak,rfl⟩) ?_;refine bH ?_;refine bQ rfl rfl (dP rfl (au _ _ _) V.h V.h rfl) (fun hc=>⟨ak,(dQ V.h V.h (by first|(simp;done)|omega|exact bg rfl))⟩) ?_;refine SS ?_;refine gc xm ?_;refine gc rZ ?_;refine af ?_;refine bX bY (an rfl (fun hp=>al ?_) fun hp=>bq ⟨bc eH ⟨au _ _ _,trivial⟩,by rw[eD];revert hp;cases b<;>cases v<;>simp⟩);refine SS ?_;exact ab (bh (aY (dp (aY (dp (aY (ap rfl (Du (by rw[eD];revert hp;cases b<;>cases v<;>simp)))))))))
      .have iO:(U==17)=false:=by simp[ij]
       rw[show(U !=17)=true by simp[ij],Bool.true_or,Bool.true_and] at eD;refine a7 ?_;(iterate 11 refine z fun _ _=>?_);refine af ?_;refine bQ rfl rfl (dP rfl (au _ _ _) V.h V.h rfl) (fun hc=>⟨ak,(dQ V.h V.h (by first|(simp;done)|omega|exact bg rfl))⟩) ?_;refine SS ?_;refine gc xm ?_;refine gc rZ ?_;refine af ?_;refine bX bY (an rfl (fun hp=>al ?_) fun hp=>bq ⟨bc eH ⟨au _ _ _,trivial⟩,by rw[eD];revert hp;cases v<;>simp⟩);refine SS ?_;exact ab (bh (aY (dp (aY (dp (aY (ap rfl (Du (by rw[eD];revert hp;cases v<;>simp)))))))))
     rintro s ⟨hg,UX⟩;rw[UX,Bool.true_and] at bU;clear UX;have qG:=qG (x:=y)
     have hp:DI d.is.length (dB y):=by
      rcases zG.1.w with e|⟨i,h1,h2⟩
      .exact .inl e
      .exact .inr ⟨i,oG,h2⟩
     have kw:=jZ (c:=d) oG hp;have zz:=(Ff d (dB y)).trans xu
     have kv:y.op=18->ax prog 67 [.agg (cC (jt d (dB y))),I ((f.ag.length:Int)+y.n)] (.agg (cC (jt (jt d (dB y)) ((f.ag.length:Int)+y.n)))):=fun e=>jZ oG (by
      obtain⟨i,h1,h2⟩:=zG.1.s e
      exact .inr ⟨f.ag.length+i,oG,by rw[h2];omega⟩)
     have jV:y.op=18->0<=y.n/\y.n<=2000:=fun e=>by
      obtain⟨i,h1,h2⟩:=zG.1.s e;omega
     have rm:=bt;unfold uy at rm;generalize jt d (dB y)=d1 at kw zz kv rm;generalize dB y=w at qG kw;have jZ:=kw;refine⟨_,hg,tI Y6 ?_⟩;clear hg;refine af ?_;refine cl qG ?_;refine cl jZ ?_;refine SS ?_;refine bX bY (bj (bc (l:=[(1,.pt (a6 f)),(4,.sl (CP.flatMap ot) CP.length),(5,di L),(6,I k),(7,.rp N 0),(8,iL x.ins),(9,I j),(10,.pt (bF y))]) (ml:=[(N,.cells (cC d1) 99)]) eH ⟨au _ _ _,trivial⟩) (fO (fun s=>aR prog s ⟨aH [(1,.pt (a6 f)),(4,.sl (CP.flatMap ot) CP.length),(5,di L),(6,I k),(7,.rp N 0),(8,iL x.ins),(9,I j),(10,.pt (bF y))],cb [(N,.cells (cC (eY f.ag.length (x.ins.take (j+1)) ⟨false,C⟩)) 99)],M+1⟩) (al ?_) ?_))
     .refine aB ?_;refine ab (an rfl (fun eh=>ln ?_) fun eh=>bq ?_)
      .have eh:y.op=18:=by simpa using eh
       rw[if_pos eh] at rm;have jZ:=kv eh;have oI:=jV eh;refine fS ?_;refine cl jZ ?_;refine SS ?_;refine ab (bc eH ⟨?_,trivial⟩);rw[rm];exact au _ _ _
      .have eh:¬ y.op=18:=by simpa using eh
       rw[if_neg eh] at rm;refine bc eH ⟨?_,trivial⟩;rw[rm];exact au _ _ _
     intro s hg;refine⟨_,hg,aE ?_⟩;clear hg rm kw kv zz jZ qG hp jV bt;refine SS ?_;generalize zr:eY f.ag.length (x.ins.take (j+1)) ⟨false,C⟩=dj
     refine ab (eX (α:=Nat×Nat) (fun q=>⟨aH [(1,.pt (a6 f)),(4,.sl (CP.flatMap ot) CP.length),(5,di L),(6,I k),(7,.rp N 0),(8,iL x.ins),(9,I j),(10,.pt (bF y)),(11,I q.1)],cb [(N,.cells (cC dj) 99)],q.2⟩)
      (fun q=>q.1<=y.args.length/\N<q.2/\(q.1=0\/y.op=19)/\(List.range q.1).all (pj f RR k y)=true) (fun q=>y.args.length - q.1) (0,M+1) (bc eH ⟨au _ _ _,trivial⟩) ⟨Nat.zero_le _,oM,.inl rfl,rfl⟩ ?_)
     rintro⟨q,M2⟩ ⟨hq,Ik,ah1,EG⟩;dsimp only at hq Ik ah1 EG ⊢;by_cases fe:y.op=19
     .have iO:(y.op==19)=true:=by simp[fe]
      have V7:cx y=true:=by simp[cx,fe]
      have rY:=(rY V7).1;have Il:Bf f RR k y=(List.range y.args.length).all (pj f RR k y):=by unfold Bf;rw[V7];rfl
      have Ep:∀ p∈cw f.blocks f.blocks.length k,∃ X:Nat,p=X/\X<f.blocks.length:=fun p hp=>by
       obtain⟨b,h1,h2,_⟩:=IU.1 hp;exact⟨b,h1,h2⟩
      have J:∀ q,pj f RR k y q=((cA f.ag.length (f.ag.length+f.aU.length) RR ((cw f.blocks f.blocks.length k).getD q 0).toNat).any||(mF (f.blocks.getD ((cw f.blocks f.blocks.length k).getD q 0).toNat lS).fin k (eY f.ag.length (f.blocks.getD ((cw f.blocks f.blocks.length k).getD q 0).toNat lS).ins (cA f.ag.length (f.ag.length+f.aU.length) RR ((cw f.blocks f.blocks.length k).getD q 0).toNat))).is.getD (y.args.getD q 0).toNat false):=fun q=>rfl;have ah2:=zG.2.p fe;have NK:=IV hw f.blocks.length k;generalize cw f.blocks f.blocks.length k=A at rY Ep J hAg NK;by_cases BS:q<y.args.length
      .have uF:decide ((q:Int)<(y.args.length:Int))=true:=decide_eq_true oG;refine cT ?_;refine bQ rfl rfl (KS rfl rfl uF) (fun hc=>⟨ak,rfl⟩) ?_;refine SS ?_;refine ab ⟨_,rfl,fun h=>?_,fun h=>oH⟩;have J:=J q;have V8:A[q]? =some A[q]:=bB oG;obtain⟨X,e1,Er⟩:=Ep _ (df (h:=by omega):A[q]∈A);rw[e1] at V8;clear e1;rw[getD_some V8,dX] at J;have zE:=N5 X Er;have MV:(cA f.ag.length (f.ag.length+f.aU.length) RR X).is.length=f.ag.length+f.aU.length:=IY;generalize cA f.ag.length (f.ag.length+f.aU.length) RR X=cp at zE J MV;obtain⟨pa,pi⟩:=cp;refine ws ?_;refine cT ?_;refine ab (aV (al ?_));cases pa with
       |true=>
        refine bH ?_;refine ab (dI rfl (fun h=>sd (Ay ?_)) fun h=>oH);refine aB ?_;exact ab (bD (q+1,M2) (bc eH ⟨au _ _ _,trivial⟩) ⟨oM,Ik,.inr fe,k9 EG J⟩ oM)
       |false=>
       refine bH ?_;refine ab (dI rfl (fun h=>oH) fun h=>dL (tI Y7 ?_));have tB:f.blocks[X]? =some f.blocks[X]:=bB Er;have py:f.blocks[X]∈f.blocks:=df _;rw[getD_some tB] at J;generalize f.blocks[X]=xp at tB py J;have vu:=vu (c:=⟨false,pi⟩) tB MV oG (fun y hy=>(O.ins xp py y hy).1) (by have:=(O.ok.bJ xp py).len;omega);have mf:=(B' f.ag.length xp.ins ⟨false,pi⟩).trans MV;generalize eY f.ag.length xp.ins ⟨false,pi⟩=pc at vu J mf
       have xv:=xv (c:=pc) (to:=(k:Int)) tB (by have:=hw xp py;omega) oG (by
        rcases O.wr xp py with e|⟨r,h1,h2⟩
        .exact .inl e
        .exact .inr ⟨r,oG,h2⟩)
       have zk:=(PG xp.fin k pc).trans mf;generalize mF xp.fin k pc=zQ at xv J zk;have V9:y.args[q]? =some y.args[q]:=bB BS;obtain⟨ri,NL,e2⟩:=ah2 _ (df BS);rw[e2] at V9;clear e2;have D1:zQ.is[ri]? =some zQ.is[ri]:=bB oG;rw[getD_some V9,dX,getD_some D1] at J;generalize zQ.is[ri]=bz at D1 J;have J:pj f RR k y q=bz:=J;refine bn ?_;refine cl vu ?_;refine cl xv ?_;refine af ?_;refine bX bY (bj (tM (i:=M2) (l:=[(1,.pt (a6 f)),(4,.sl (CP.flatMap ot) CP.length),(5,di L),(6,I k),(7,.rp N 0),(8,iL x.ins),(9,I j),(10,.pt (bF y)),(11,I q),(13,.pt (cC zQ))]) (ml:=[(N,.cells (cC dj) 99)]) (au _ _ _) ⟨rfl,rfl,rfl,rfl,QF oG,rfl,rfl,rfl,rfl,nt,trivial⟩ ⟨Ae oG (aM oG (aM oG (au _ _ _))) rfl,trivial⟩) (eF Y8 ?_));refine cT ?_;refine af ?_;refine bX bY (an rfl (fun hp=>al ?_) fun hp=>eC ?_)
       .have N6:bz=false:=by simpa using hp
        refine SS ?_;refine ab (bh (dp (dp (aY (dp (aY (ap (d:=I 81) rfl ?_)))))));rw[rh (by rw[bU,Il,nU BS (by rw[J,N6])])]
       .have N6:bz=true:=by simpa using hp
        refine aB ?_;exact ab (bD (q+1,M2+1) (bc eH ⟨au _ _ _,trivial⟩) ⟨oM,oM,.inr fe,k9 EG (by rw[J,N6])⟩ oM)
      .have uF:decide ((q:Int)<(y.args.length:Int))=false:=decide_eq_false oG;have:q=y.args.length:=by omega
       subst this;rw[<- Il] at EG;refine cT ?_;refine bQ rfl rfl (KS rfl rfl uF) (fun hc=>⟨ak,rfl⟩) ?_;refine SS ?_;refine ab ⟨_,rfl,fun h=>oH,fun h=>?_⟩;show aw _ _ _ _ _ _ _ _ _;refine aB ?_;refine ab (bD (j+1,M2) (bc eH ⟨?_,trivial⟩) ⟨oM,Ik,k9 tD (by rw[bU,EG])⟩ oM);dsimp only;rw[zr];exact au _ _ _
     .have iO:(y.op==19)=false:=by simp[fe]
      have Il:Bf f RR k y=true:=by unfold Bf cx;simp[fe]
      refine a7 ?_;(iterate 5 refine z fun _ _=>?_);refine SS ?_;refine ab ⟨_,rfl,fun h=>oH,fun h=>?_⟩;show aw _ _ _ _ _ _ _ _ _;refine aB ?_;refine ab (bD (j+1,M2) (bc eH ⟨?_,trivial⟩) ⟨oM,Ik,k9 tD (by rw[bU,Il])⟩ oM);dsimp only;rw[zr];exact au _ _ _
    .have bL:¬ j<x.ins.length:=by simpa using h
     have:j=x.ins.length:=by omega
     subst this;rw[<- kM rfl];exact⟨M,bc eH ⟨au _ _ _,trivial⟩,hM,tD⟩
   .rintro s ⟨M,hg,hM,oR⟩;rw[oR,Bool.true_and] at xx;have xu:=(B' f.ag.length x.ins ⟨false,C⟩).trans cF;refine⟨_,hg,eF Y9 ?_⟩;generalize eY f.ag.length x.ins ⟨false,C⟩=d at xx xu;have Ic:=Ic (x:=x.fin) (fun h5 ho=>by have:=(O.ok.ahp x dz h5).ar ho;omega) (fun h1=>by have:=(O.ok.ends x dz).fin.a2 (by rcases h1 with e|e<;>simp[aI,e]);omega)
    have rZ:=rZ (c:=d) (rs:=cN x.fin) (fun r hr=>by
     obtain⟨i,h1,h2⟩:=O.rd x dz r hr
     exact⟨i,oG,h2⟩)
    rw[<- xx] at rZ;generalize cN x.fin=rs at Ic rZ;refine fS ?_;refine cl Ic ?_;refine cl rZ ?_;refine SS ?_;refine bX bY (an rfl (fun hp=>?_) fun hp=>eC ?_)
    .refine ws ?_;refine SS ?_;refine ab (bh (dp (aY (ap (d:=I 81) rfl ?_))));rw[pz (by simpa using hp)]
    .refine aB ?_;exact ab (bD (k+1,M) (hP eH) ⟨oM,k9 bT (by simpa using hp)⟩ oM)
  .have bL:¬ k<f.blocks.length:=by simpa using h
   have:k=f.blocks.length:=by omega
   subst this;exact⟨⟨N,hP (l:=[]) trivial⟩,bT⟩
 .rintro s ⟨⟨N,hg⟩,bT⟩;refine⟨_,hg,al ?_⟩;refine SS ?_;refine ab (ap (d:=I 0) rfl ?_);rw[bT];rfl
end Go.Proofs.Tryz.K
namespace Go.Proofs.Tryz.K
theorem k3{f:bd}(hs:CY f):ax prog 3 [.agg (a6 f)] (B true):=by
 have C:∀ a∈[D.agg (a6 f)],Tr a:=.cons (.agg (oY f)) .nil;refine bP ok3 C (Tr.s _) ?_;rw[sk3];have BG:=BG;have xd:=xd (f:=f);refine aE ?_;refine af ?_;refine ab (bj (cr [(0,a6 f,26)] eH (l:=[(1,.pt (a6 f))]) eH) (aV (al ?_)));cases hb:vT f with
 |false=>
  rw[hb] at xd;refine SS ?_;refine cl xd ?_;refine SS ?_;refine ab (yx (aV (al ?_)));refine cl BG ?_;refine SS ?_;exact ab (fN (ap rfl rfl))
 |true=>
  rw[hb] at xd;have BH:=BH (f:=f);have BI:=BI hs (Z8 hb);generalize vU f=c at BH BI;refine SS ?_;refine cl xd ?_;refine SS ?_;refine ab (yw (dL (eF aby ?_)));refine cl BG ?_;refine SS ?_;refine bQ rfl rfl (ki (vs:=a6 _) rfl V.h V.h rfl) (fun hc=>⟨ak,(ko V.h V.h oS)⟩) ?_;refine gc BH ?_;refine bQ rfl rfl (ki (vs:=a6 _) rfl V.h V.h rfl) (fun hc=>⟨ak,(ko V.h V.h oS)⟩) ?_;refine gc BI ?_;refine SS ?_;rw[show(c==c)=true from beq_self_eq_true _];refine af ?_;refine bX bY ?_;exact ap rfl rfl
end Go.Proofs.Tryz.K
end
