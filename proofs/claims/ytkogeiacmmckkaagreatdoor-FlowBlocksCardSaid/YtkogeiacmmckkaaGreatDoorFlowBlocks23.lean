/- Part 23. -/
import Derived.Test.YtkogeiacmmckkaaGreatDoorFlowBlocks18
import Derived.Test.YtkogeiacmmckkaaGreatDoorFlowBlocks19
import Derived.Test.YtkogeiacmmckkaaGreatDoorFlowBlocks21
import Derived.Test.YtkogeiacmmckkaaGreatDoorFlowBlocks22
set_option linter.all false
set_option maxHeartbeats 4000000
set_option maxRecDepth 10000
open List(range)
section
open Go Go.Abs Go.Proofs Go.Argus
namespace Go.Argus
open Go.Proofs.Tryz.K (nextR)
@[simp] theorem Pt (p : Bool × D) : (ot p).length = 2 := rfl
theorem Xa{f:bd}(h:nZ f=true):∀ b∈f.blocks,jG f b.fin=true:=fun b hb=>by
 unfold nZ at h;simp only[ay] at h;obtain⟨_,_,_,C,_⟩:=h;obtain⟨k,hk⟩:=dY hb;have:=b7.1 C k (by simpa using(bZ.1 hk).1);unfold kq at this;simp only[getD_some hk,ay] at this;exact this.1
def yC(f:bd)(b:Int):Int:=if vU f=0 then(if c8 b 0 ((f.blocks.length:Int) - 1)=true then 0 else 1) else vU f
def ait(f:bd)(b:Int):List Int:=match f.blocks[b.toNat]? with
 |some x=>nextR x.fin
 |none=>[]
def agV(e:Int)(l:List Int):D:=if e=0 then aX l else .z
theorem aiQ(e:Int)(l:List Int):Tr (agV e l):=by
 unfold agV;split
 .exact ew _
 .exact .z
theorem aiw{f:bd}(h:vU f=0):nZ f=true:=by
 unfold vU at h;split at h
 .assumption
 .cases h
theorem ai4{b:Int}{n:Nat}(h:c8 b 0 ((n:Int) - 1)=true):∃ k:Nat,b=k/\k<n:=by
 have:=kH.1 h;exact⟨b.toNat,oG,oG⟩
def aip(f:bd)(b:Int):List Int:=cw f.blocks f.blocks.length b.toNat
end Go.Argus
namespace Go.Proofs.Tryz.K
theorem BI{f:bd}(hs:CY f)(hw:∀ b∈f.blocks,b.fin.aJ.length<=10):ax prog 17 [.agg (a6 f)] (I (vU f)):=by
 rw[<- Y4];have BR:=BR hs hw;have HO:KV f=if tV f=true then(if(range f.blocks.length).all (pg f (iq f.blocks f.args.toNat))=true then 0 else 81) else 80:=rfl
 refine bP ahX (.cons (.agg (oY f)) .nil) (Tr.s _) ?_;rw[ahY,HO];clear HO;refine aE ?_;refine af ?_;refine ab (bj (cr [(0,a6 f,26)] eH (l:=[(1,.pt (a6 f))]) eH) (al ?_));cases hf:tV f with
 |false=>
  rw[hf] at BR;refine SS ?_;refine cl BR ?_;refine SS ?_;refine ab (aV (al ?_));refine af ?_;refine ab (yx ?_);refine aV (al ?_);refine SS ?_;exact ab (fN (ap rfl rfl))
 |true=>
 rw[hf] at BR;rw[if_pos rfl];rw[O2] at hf;have he:=Xa hf;have O:=T7 hf;have BT:=BT O hw;have hR:=O.ok.ag;have hS:=O.sl;have hN1:=O.ok.BJ;have xq:=xq (f:=f) rfl oG hw (fun b hb t ht=>by rw[(O.ed b hb).2] at ht;exact(O.ok.bJ b hb).to t ht)
 have V4:∀ k,k<f.blocks.length->(o0 f.blocks)[k]? =some (cw f.blocks f.blocks.length k):=fun k hk=>by
  rw[<- PK he];simp[o0,hk]
 have Ig:(o0 f.blocks).length=f.blocks.length:=by simp[o0]
 generalize o0 f.blocks=L at xq V4 Ig
 have V5:CM f (iq f.blocks f.args.toNat)=.sl ((eW f.ag.length (f.ag.length+f.aU.length) f.blocks.length (iq f.blocks f.args.toNat)).flatMap ot) (eW f.ag.length (f.ag.length+f.aU.length) f.blocks.length (iq f.blocks f.args.toNat)).length:=by
  unfold CM;rw[vA];rfl
 rw[V5] at BT;clear V5;generalize iq f.blocks f.args.toNat=RR at BT ⊢;have N5:∀ k,k<f.blocks.length->(eW f.ag.length (f.ag.length+f.aU.length) f.blocks.length RR)[k]? =some (DK (cA f.ag.length (f.ag.length+f.aU.length) RR k)):=fun k hk=>zO hk;have hCl:=vA f.ag.length (f.ag.length+f.aU.length) f.blocks.length RR;generalize eW f.ag.length (f.ag.length+f.aU.length) f.blocks.length RR=CP at BT N5 hCl;refine SS ?_;refine cl BR ?_;refine SS ?_;refine ab (aV (al ?_));refine af ?_;refine ab (yw (dL (al ?_)));refine SS ?_;refine cl BT ?_;refine SS ?_;refine er ?_;refine SS ?_;refine cl xq ?_;refine SS ?_;refine ab (aV (aE ?_));refine SS ?_
 refine ab (dA (fun s=>(∃ N,aR prog s ⟨aH [],fun _=>none,N⟩)/\(range f.blocks.length).all (pg f RR)=true) (eX (α:=Nat×Nat) (fun q=>⟨aH [(1,.pt (a6 f)),(4,.sl (CP.flatMap ot) CP.length),(5,di L),(6,I q.1)],fun _=>none,q.2⟩)
  (fun q=>q.1<=f.blocks.length/\(range q.1).all (pg f RR)=true) (fun q=>f.blocks.length - q.1) (0,1) (aby eH) ⟨Nat.zero_le _,rfl⟩ ?_) ?_)
 .rintro⟨k,N⟩ ⟨hk,bT⟩;dsimp only at hk bT ⊢;refine bH ?_;refine ab ⟨_,rfl,fun h=>?_,fun h=>?_⟩
  .have aj:k<f.blocks.length:=by simpa using h
   have hx:f.blocks[k]? =some f.blocks[k]:=bB aj;have dz:f.blocks[k]∈f.blocks:=df _;have BU:=N5 k aj;have pz:pg f RR k=false->(if(range f.blocks.length).all (pg f RR)=true then(0:Int) else 81)=81:=fun hq=>by rw[nU aj hq];rfl
   have xx:pg f RR k=((cA f.ag.length (f.ag.length+f.aU.length) RR k).any||((range f.blocks[k].ins.length).all (yY f RR k f.blocks[k].ins (cA f.ag.length (f.ag.length+f.aU.length) RR k))&&qF (eY f.ag.length f.blocks[k].ins (cA f.ag.length (f.ag.length+f.aU.length) RR k)) (cN f.blocks[k].fin))):=by
    unfold pg;simp only[getD_some hx]
   have cF:(cA f.ag.length (f.ag.length+f.aU.length) RR k).is.length=f.ag.length+f.aU.length:=IY;generalize f.blocks[k]=x at hx dz xx;generalize cA f.ag.length (f.ag.length+f.aU.length) RR k=c at BU xx cF;obtain⟨ca,C⟩:=c;refine aV (al ?_);cases ca with
   |true=>
    refine bH ?_;refine ab (dI rfl (fun h=>sd (Ay ?_)) fun h=>oH);refine aB ?_;exact ab (bD (k+1,N) (aby eH) ⟨oM,k9 bT xx⟩ oM)
   |false=>
   refine bH ?_;refine ab (dI rfl (fun h=>oH) fun h=>dL (aE ?_));rw[show({ any:=false,is:=C }:Cert).any=false from rfl,Bool.false_or] at xx;refine cY ?_;refine ab (bj (bc (l:=[(1,.pt (a6 f)),(4,.sl (CP.flatMap ot) CP.length),(5,di L),(6,I k),(7,.rp N 0)]) (ml:=[(N,.cells (cC ⟨false,C⟩) 99)]) eH ⟨au _ _ _,trivial⟩) (al ?_));refine fS ?_;have fI:=(O.ok.bJ x dz).len;have ahZ:=O.ins x dz;have yR:=O.Ia k x hx;have hAg:=V4 k aj;have ah0:=IZ (fun b hb t ht=>((O.ok.bJ b hb).to t ht).1) f.blocks.length k;have afH:=O.ok.bJ;have J:∀ y q,pj f RR k y q=pj f RR k y q:=fun _ _=>rfl;refine ab (aV (aE ?_));refine SS ?_
   refine ab (dA (fun s=>∃ N',aR prog s ⟨aH [(1,.pt (a6 f)),(4,.sl (CP.flatMap ot) CP.length),(5,di L),(6,I k),(7,.rp N 0)],cb [(N,.cells (cC (eY f.ag.length x.ins ⟨false,C⟩)) 99)],N'⟩/\N<N'/\(range x.ins.length).all (yY f RR k x.ins ⟨false,C⟩)=true) (eX (α:=Nat×Nat) (fun j=>⟨aH [(1,.pt (a6 f)),(4,.sl (CP.flatMap ot) CP.length),(5,di L),(6,I k),(7,.rp N 0),(8,iL x.ins),(9,I j.1)],cb [(N,.cells (cC (eY f.ag.length (x.ins.take j.1) ⟨false,C⟩)) 99)],j.2⟩)
    (fun j=>j.1<=x.ins.length/\N<j.2/\(range j.1).all (yY f RR k x.ins ⟨false,C⟩)=true) (fun j=>x.ins.length - j.1) (0,N+1) (bc eH ⟨au _ _ _,trivial⟩) ⟨Nat.zero_le _,Nat.lt_succ_self _,rfl⟩ ?_) ?_)
   .rintro⟨j,M⟩ ⟨hj,hM,tD⟩;dsimp only at hj hM tD ⊢;have bt:∀ y,x.ins[j]? =some y->eY f.ag.length (x.ins.take (j+1)) ⟨false,C⟩=uy f.ag.length (eY f.ag.length (x.ins.take j) ⟨false,C⟩) y:=fun y hy=>pT hy;have kM:j=x.ins.length->eY f.ag.length (x.ins.take j) ⟨false,C⟩=eY f.ag.length x.ins ⟨false,C⟩:=fun e=>by rw[e,List.take_length]
    have xu:=(B' f.ag.length (x.ins.take j) ⟨false,C⟩).trans cF;have bU:yY f RR k x.ins ⟨false,C⟩ j=(opsV f.ag.length (eY f.ag.length (x.ins.take j) ⟨false,C⟩) (x.ins.getD j ez)&&Bf f RR k (x.ins.getD j ez)):=rfl;generalize eY f.ag.length (x.ins.take j) ⟨false,C⟩=d at bt kM xu bU;refine a7 ?_;refine ab ⟨_,rfl,fun h=>?_,fun h=>?_⟩
    .have dZ:j<x.ins.length:=by simpa using h
     have hy:x.ins[j]? =some x.ins[j]:=bB dZ;have bt:=bt _ hy;rw[getD_some hy] at bU;have zG:=ahZ _ (df dZ);have rY:=yR j _ hy;have rh:yY f RR k x.ins ⟨false,C⟩ j=false->(if(range f.blocks.length).all (pg f RR)=true then(0:Int) else 81)=81:=fun hq=>pz (by rw[xx,nU dZ hq];rfl);generalize x.ins[j]=y at hy bt bU zG rY;refine aE ?_;refine cY ?_;refine ab (bj (tM (i:=M) (l:=[(1,.pt (a6 f)),(4,.sl (CP.flatMap ot) CP.length),(5,di L),(6,I k),(7,.rp N 0),(8,iL x.ins),(9,I j),(10,.pt (bF y))]) (ml:=[(N,.cells (cC d) 99)]) (au _ _ _) ⟨rfl,rfl,rfl,rfl,QF oG,rfl,rfl,nt,trivial⟩ ⟨Ae oG (aM oG (aM oG (au _ _ _))) rfl,trivial⟩) (fO (fun s=>aR prog s ⟨aH [(1,.pt (a6 f)),(4,.sl (CP.flatMap ot) CP.length),(5,di L),(6,I k),(7,.rp N 0),(8,iL x.ins),(9,I j),(10,.pt (bF y))],cb [(N,.cells (cC d) 99)],M+1⟩/\opsV f.ag.length d y=true) ?_ ?_))
     .have c7:=(afH x dz).ins y (cX hy);clear bt rY;obtain⟨U,yt,ya,yb,yn,yl⟩:=y;have eD:opsV f.ag.length d ⟨U,yt,ya,yb,yn,yl⟩=((U !=17||d.is.getD ((f.ag.length:Int)+yn).toNat false)&&qF d (cL ⟨U,yt,ya,yb,yn,yl⟩)):=rfl;have xm:=xm (x:=⟨U,yt,ya,yb,yn,yl⟩) (fun ho=>by have:=c7.ar ho;dsimp only at this ⊢;omega)
      have rZ:=rZ (c:=d) (rs:=cL ⟨U,yt,ya,yb,yn,yl⟩) (fun r hr=>by
       obtain⟨i,h1,h2⟩:=zG.2.r r hr
       exact⟨i,oG,h2⟩)
      generalize qF d (cL ⟨U,yt,ya,yb,yn,yl⟩)=v at rZ eD;generalize cL ⟨U,yt,ya,yb,yn,yl⟩=rs at rZ xm;have Du:opsV f.ag.length d ⟨U,yt,ya,yb,yn,yl⟩=false->I 81=I (if(range f.blocks.length).all (pg f RR)=true then 0 else 81):=fun hq=>by rw[rh (by rw[bU,hq];rfl)]
      refine eF Y5 ?_;by_cases ij:U=17
      .obtain⟨i,hi,e⟩:=zG.2.s ij;dsimp only at e;subst e;have V6:d.is[f.ag.length+i]? =some d.is[f.ag.length+i]:=bB oG;have iO:(U==17)=true:=by simp[ij]
       rw[show((f.ag.length:Int)+(i:Int)).toNat=f.ag.length+i by omega,getD_some V6,show(U !=17)=false by simp[ij],Bool.false_or] at eD;generalize d.is[f.ag.length+i]=b at V6 eD;have hqn:({ op:=U,to:=yt,a:=ya,b:=yb,n:=(i:Int),args:=yl }:bS).n=(i:Int):=rfl;refine bn ?_;refine af ?_;refine bQ rfl rfl (S9 rfl rfl oG) (fun hc=>⟨ak,rfl⟩) ?_;refine bH ?_;refine bQ rfl rfl (dP rfl (au _ _ _) V.h V.h rfl) (fun hc=>⟨ak,(dQ V.h V.h (by first|(simp;done)|omega|exact bg rfl))⟩) ?_;refine SS ?_;refine gc xm ?_;refine gc rZ ?_;refine af ?_;refine bX bY (an rfl (fun hp=>al ?_) fun hp=>bq ⟨bc eH ⟨au _ _ _,trivial⟩,by rw[eD];revert hp;cases b<;>cases v<;>simp⟩);refine SS ?_;exact ab (bh (aY (dp (aY (dp (aY (ap rfl (Du (by rw[eD];revert hp;cases b<;>cases v<;>simp)))))))))
      .have iO:(U==17)=false:=by simp[ij]
       rw[show(U !=17)=true by simp[ij],Bool.true_or,Bool.true_and] at eD;refine a7 ?_;(iterate 11 refine z fun _ _=>?_);refine af ?_;refine bQ rfl rfl (dP rfl (au _ _ _) V.h V.h rfl) (fun hc=>⟨ak,(dQ V.h V.h (by first|(simp;done)|omega|exact bg rfl))⟩) ?_;refine SS ?_;refine gc xm ?_;refine gc rZ ?_;refine af ?_;refine bX bY (an rfl (fun hp=>al ?_) fun hp=>bq ⟨bc eH ⟨au _ _ _,trivial⟩,by rw[eD];revert hp;cases v<;>simp⟩);refine SS ?_;exact ab (bh (aY (dp (aY (dp (aY (ap rfl (Du (by rw[eD];revert hp;cases v<;>simp)))))))))
     rintro s ⟨hg,UX⟩;rw[UX,Bool.true_and] at bU;clear UX;have qG:=qG (x:=y)
     have hp:DI d.is.length (dB y):=by
      rcases zG.1.w with e|⟨i,h1,h2⟩
      .exact .inl e
      .exact .inr ⟨i,oG,h2⟩
     have kw:=jZ (c:=d) oG hp;have zz:=(Ff d (dB y)).trans xu
     have kv:y.op=18->ax prog 67 [.agg (cC (jt d (dB y))),I ((f.ag.length:Int)+y.n)] (.agg (cC (jt (jt d (dB y)) ((f.ag.length:Int)+y.n)))):=fun e=>jZ oG (by
      obtain⟨i,h1,h2⟩:=zG.1.s e
      exact .inr ⟨f.ag.length+i,oG,by rw[h2];omega⟩)
     have jV:y.op=18->0<=y.n/\y.n<=2000:=fun e=>by
      obtain⟨i,h1,h2⟩:=zG.1.s e;omega
     have rm:=bt;unfold uy at rm;generalize jt d (dB y)=d1 at kw zz kv rm;generalize dB y=w at qG kw;have jZ:=kw;refine⟨_,hg,tI Y6 ?_⟩;clear hg;refine af ?_;refine cl qG ?_;refine cl jZ ?_;refine SS ?_;refine bX bY (bj (bc (l:=[(1,.pt (a6 f)),(4,.sl (CP.flatMap ot) CP.length),(5,di L),(6,I k),(7,.rp N 0),(8,iL x.ins),(9,I j),(10,.pt (bF y))]) (ml:=[(N,.cells (cC d1) 99)]) eH ⟨au _ _ _,trivial⟩) (fO (fun s=>aR prog s ⟨aH [(1,.pt (a6 f)),(4,.sl (CP.flatMap ot) CP.length),(5,di L),(6,I k),(7,.rp N 0),(8,iL x.ins),(9,I j),(10,.pt (bF y))],cb [(N,.cells (cC (eY f.ag.length (x.ins.take (j+1)) ⟨false,C⟩)) 99)],M+1⟩) (al ?_) ?_))
     .refine aB ?_;refine ab (an rfl (fun eh=>ln ?_) fun eh=>bq ?_)
      .have eh:y.op=18:=by simpa using eh
       rw[if_pos eh] at rm;have jZ:=kv eh;have oI:=jV eh;refine fS ?_;refine cl jZ ?_;refine SS ?_;refine ab (bc eH ⟨?_,trivial⟩);rw[rm];exact au _ _ _
      .have eh:¬ y.op=18:=by simpa using eh
       rw[if_neg eh] at rm;refine bc eH ⟨?_,trivial⟩;rw[rm];exact au _ _ _
     intro s hg;refine⟨_,hg,aE ?_⟩;clear hg rm kw kv zz jZ qG hp jV bt;refine SS ?_;generalize zr:eY f.ag.length (x.ins.take (j+1)) ⟨false,C⟩=dj
     refine ab (eX (α:=Nat×Nat) (fun q=>⟨aH [(1,.pt (a6 f)),(4,.sl (CP.flatMap ot) CP.length),(5,di L),(6,I k),(7,.rp N 0),(8,iL x.ins),(9,I j),(10,.pt (bF y)),(11,I q.1)],cb [(N,.cells (cC dj) 99)],q.2⟩)
      (fun q=>q.1<=y.args.length/\N<q.2/\(q.1=0\/y.op=19)/\(range q.1).all (pj f RR k y)=true) (fun q=>y.args.length - q.1) (0,M+1) (bc eH ⟨au _ _ _,trivial⟩) ⟨Nat.zero_le _,oM,.inl rfl,rfl⟩ ?_)
     rintro⟨q,M2⟩ ⟨hq,Ik,ah1,EG⟩;dsimp only at hq Ik ah1 EG ⊢;by_cases fe:y.op=19
     .have iO:(y.op==19)=true:=by simp[fe]
      have V7:cx y=true:=by simp[cx,fe]
      have rY:=(rY V7).1;have Il:Bf f RR k y=(range y.args.length).all (pj f RR k y):=by unfold Bf;rw[V7];rfl
      have Ep:∀ p∈cw f.blocks f.blocks.length k,∃ X:Nat,p=X/\X<f.blocks.length:=fun p hp=>by
       obtain⟨b,h1,h2,_⟩:=IU.1 hp;exact⟨b,h1,h2⟩
      have J:∀ q,pj f RR k y q=((cA f.ag.length (f.ag.length+f.aU.length) RR ((cw f.blocks f.blocks.length k).getD q 0).toNat).any||(mF (f.blocks.getD ((cw f.blocks f.blocks.length k).getD q 0).toNat lS).fin k (eY f.ag.length (f.blocks.getD ((cw f.blocks f.blocks.length k).getD q 0).toNat lS).ins (cA f.ag.length (f.ag.length+f.aU.length) RR ((cw f.blocks f.blocks.length k).getD q 0).toNat))).is.getD (y.args.getD q 0).toNat false):=fun q=>rfl;have ah2:=zG.2.p fe;have NK:=IV hw f.blocks.length k;generalize cw f.blocks f.blocks.length k=A at rY Ep J hAg NK;by_cases BS:q<y.args.length
      .have uF:decide ((q:Int)<(y.args.length:Int))=true:=decide_eq_true oG;refine cT ?_;refine bQ rfl rfl (KS rfl rfl uF) (fun hc=>⟨ak,rfl⟩) ?_;refine SS ?_;refine ab ⟨_,rfl,fun h=>?_,fun h=>oH⟩;have J:=J q;have V8:A[q]? =some A[q]:=bB oG;obtain⟨X,e1,Er⟩:=Ep _ (df (h:=by omega):A[q]∈A);rw[e1] at V8;clear e1;rw[getD_some V8,dX] at J;have zE:=N5 X Er;have MV:(cA f.ag.length (f.ag.length+f.aU.length) RR X).is.length=f.ag.length+f.aU.length:=IY;generalize cA f.ag.length (f.ag.length+f.aU.length) RR X=cp at zE J MV;obtain⟨pa,pi⟩:=cp;refine ws ?_;refine cT ?_;refine ab (aV (al ?_));cases pa with
       |true=>
        refine bH ?_;refine ab (dI rfl (fun h=>sd (Ay ?_)) fun h=>oH);refine aB ?_;exact ab (bD (q+1,M2) (bc eH ⟨au _ _ _,trivial⟩) ⟨oM,Ik,.inr fe,k9 EG J⟩ oM)
       |false=>
       refine bH ?_;refine ab (dI rfl (fun h=>oH) fun h=>dL (tI Y7 ?_));have tB:f.blocks[X]? =some f.blocks[X]:=bB Er;have py:f.blocks[X]∈f.blocks:=df _;rw[getD_some tB] at J;generalize f.blocks[X]=xp at tB py J;have vu:=vu (c:=⟨false,pi⟩) tB MV oG (fun y hy=>(O.ins xp py y hy).1) (by have:=(O.ok.bJ xp py).len;omega);have mf:=(B' f.ag.length xp.ins ⟨false,pi⟩).trans MV;generalize eY f.ag.length xp.ins ⟨false,pi⟩=pc at vu J mf
       have xv:=xv (c:=pc) (to:=(k:Int)) tB (by have:=hw xp py;omega) oG (by
        rcases O.wr xp py with e|⟨r,h1,h2⟩
        .exact .inl e
        .exact .inr ⟨r,oG,h2⟩)
       have zk:=(PG xp.fin k pc).trans mf;generalize mF xp.fin k pc=zQ at xv J zk;have V9:y.args[q]? =some y.args[q]:=bB BS;obtain⟨ri,NL,e2⟩:=ah2 _ (df BS);rw[e2] at V9;clear e2;have D1:zQ.is[ri]? =some zQ.is[ri]:=bB oG;rw[getD_some V9,dX,getD_some D1] at J;generalize zQ.is[ri]=bz at D1 J;have J:pj f RR k y q=bz:=J;refine bn ?_;refine cl vu ?_;refine cl xv ?_;refine af ?_;refine bX bY (bj (tM (i:=M2) (l:=[(1,.pt (a6 f)),(4,.sl (CP.flatMap ot) CP.length),(5,di L),(6,I k),(7,.rp N 0),(8,iL x.ins),(9,I j),(10,.pt (bF y)),(11,I q),(13,.pt (cC zQ))]) (ml:=[(N,.cells (cC dj) 99)]) (au _ _ _) ⟨rfl,rfl,rfl,rfl,QF oG,rfl,rfl,rfl,rfl,nt,trivial⟩ ⟨Ae oG (aM oG (aM oG (au _ _ _))) rfl,trivial⟩) (eF Y8 ?_));refine cT ?_;refine af ?_;refine bX bY (an rfl (fun hp=>al ?_) fun hp=>eC ?_)
       .have N6:bz=false:=by simpa using hp
        refine SS ?_;refine ab (bh (dp (dp (aY (dp (aY (ap (d:=I 81) rfl ?_)))))));rw[rh (by rw[bU,Il,nU BS (by rw[J,N6])])]
       .have N6:bz=true:=by simpa using hp
        refine aB ?_;exact ab (bD (q+1,M2+1) (bc eH ⟨au _ _ _,trivial⟩) ⟨oM,oM,.inr fe,k9 EG (by rw[J,N6])⟩ oM)
      .have uF:decide ((q:Int)<(y.args.length:Int))=false:=decide_eq_false oG;have:q=y.args.length:=by omega
       subst this;rw[<- Il] at EG;refine cT ?_;refine bQ rfl rfl (KS rfl rfl uF) (fun hc=>⟨ak,rfl⟩) ?_;refine SS ?_;refine ab ⟨_,rfl,fun h=>oH,fun h=>?_⟩;show aw _ _ _ _ _ _ _ _ _;refine aB ?_;refine ab (bD (j+1,M2) (bc eH ⟨?_,trivial⟩) ⟨oM,Ik,k9 tD (by rw[bU,EG])⟩ oM);dsimp only;rw[zr];exact au _ _ _
     .have iO:(y.op==19)=false:=by simp[fe]
      have Il:Bf f RR k y=true:=by unfold Bf cx;simp[fe]
      refine a7 ?_;(iterate 5 refine z fun _ _=>?_);refine SS ?_;refine ab ⟨_,rfl,fun h=>oH,fun h=>?_⟩;show aw _ _ _ _ _ _ _ _ _;refine aB ?_;refine ab (bD (j+1,M2) (bc eH ⟨?_,trivial⟩) ⟨oM,Ik,k9 tD (by rw[bU,Il])⟩ oM);dsimp only;rw[zr];exact au _ _ _
    .have bL:¬ j<x.ins.length:=by simpa using h
     have:j=x.ins.length:=by omega
     subst this;rw[<- kM rfl];exact⟨M,bc eH ⟨au _ _ _,trivial⟩,hM,tD⟩
   .rintro s ⟨M,hg,hM,oR⟩;rw[oR,Bool.true_and] at xx;have xu:=(B' f.ag.length x.ins ⟨false,C⟩).trans cF;refine⟨_,hg,eF Y9 ?_⟩;generalize eY f.ag.length x.ins ⟨false,C⟩=d at xx xu;have Ic:=Ic (x:=x.fin) (fun h5 ho=>by have:=(O.ok.ahp x dz h5).ar ho;omega) (fun h1=>by have:=(O.ok.ends x dz).fin.a2 (by rcases h1 with e|e<;>simp[aI,e]);omega)
    have rZ:=rZ (c:=d) (rs:=cN x.fin) (fun r hr=>by
     obtain⟨i,h1,h2⟩:=O.rd x dz r hr
     exact⟨i,oG,h2⟩)
    rw[<- xx] at rZ;generalize cN x.fin=rs at Ic rZ;refine fS ?_;refine cl Ic ?_;refine cl rZ ?_;refine SS ?_;refine bX bY (an rfl (fun hp=>?_) fun hp=>eC ?_)
    .refine ws ?_;refine SS ?_;refine ab (bh (dp (aY (ap (d:=I 81) rfl ?_))));rw[pz (by simpa using hp)]
    .refine aB ?_;exact ab (bD (k+1,M) (aby eH) ⟨oM,k9 bT (by simpa using hp)⟩ oM)
  .have bL:¬ k<f.blocks.length:=by simpa using h
   have:k=f.blocks.length:=by omega
   subst this;exact⟨⟨N,aby (l:=[]) trivial⟩,bT⟩
 .rintro s ⟨⟨N,hg⟩,bT⟩;refine⟨_,hg,al ?_⟩;refine SS ?_;refine ab (ap (d:=I 0) rfl ?_);rw[bT];rfl
end Go.Proofs.Tryz.K
end
namespace Go.Proofs.Tryz.K
open Go.Abs
theorem ajq:aiB=(S1 (G1 aiB 0) (S1 (G1 aiB 1) (S1 (S1 (G1 aiB 2) (C1 9 (S1 (G1 aiB 3) .ret) K1)) (S1 (S1 (G1 aiB 4) (C1 17 (S1 (G1 aiB 5) .ret) K1)) (S1 (G1 aiB 6) .ret))))):=kr
end Go.Proofs.Tryz.K
section
open Go Go.Abs Go.Proofs Go.Argus
namespace Go.Proofs.Tryz.K
set_option maxHeartbeats 1000000
theorem k33{f:bd}{b:Int}:ax prog 33 [.agg (a6 f),I b] (.bp [agV (yC f b) (ait f b),I (yC f b)]):=by
 refine bP ajl (.cons (.agg (oY f)) (.cons (.s _) .nil)) (.bp (.cons (aiQ _ _) (.cons (.s _) .nil))) ?_;rw[ajm];have BH:=BH (f:=f);refine aE ?_;refine aB ?_;refine ab (bj (cr [(0,a6 f,26)] eH (l:=[(1,I b),(2,.pt (a6 f)),(4,.z),(5,I 0)]) eH) (aV (al ?_)));by_cases he:vU f=0
 .have hf:=aiw he;have J:=SQ hf;have hn:=J.BJ;have X:=J.pos;rw[he] at BH;have C:yC f b=if c8 b 0 ((f.blocks.length:Int) - 1)=true then 0 else 1:=if_pos he
  refine SS ?_;refine cl BH ?_;refine SS ?_;refine ab (aV (al ?_));refine af ?_;refine ab (yw (dL (aV (al ?_))));have mi:=mi (n:=b) (a:=0) (b:=(f.blocks.length:Int) - 1);have wC:(f.blocks.length:Int) - 1=(f.blocks.length:Int) - 1/\ -9223372036854775808<=(f.blocks.length:Int) - 1/\(f.blocks.length:Int) - 1<=9223372036854775807:=by omega
  cases hb:c8 b 0 ((f.blocks.length:Int) - 1) with
  |false=>
   rw[hb] at mi C;refine bH ?_;refine cl mi ?_;refine SS ?_;refine ab (yx (aV (al ?_)));refine af ?_;refine ab (fN (R9 rfl rfl ?_));rw[show yC f b=1 from C];rfl
  |true=>
   rw[hb] at mi C;refine bH ?_;refine cl mi ?_;refine SS ?_;refine ab (yw (dL (al ?_)));clear mi wC;obtain⟨k,rfl,hk⟩:=ai4 hb;have hx:f.blocks[k]? =some f.blocks[k]:=bB hk;have O:f.blocks[k]∈f.blocks:=df _
   have M:ait f (k:Int)=nextR f.blocks[k].fin:=by
    unfold ait;rw[dX,hx]
   have vf:=TS (x:=f.blocks[k].fin) (J.bJ _ O).fin.wh;have ve:=ve (x:=f.blocks[k].fin);generalize f.blocks[k]=x at hx M vf ve;refine cY ?_;refine cl ve ?_;refine cl vf ?_;refine af ?_;refine ab (R9 rfl rfl ?_);rw[show yC f (k:Int)=0 from C,M];rfl
 .have C:yC f b=vU f:=if_neg he;rw[C];have U:agV (vU f) (ait f b)=.z:=if_neg he;rw[U];generalize vU f=e at BH he;have uG:(e !=0)=true:=by simpa using he
  refine SS ?_;refine cl BH ?_;refine SS ?_;refine ab (aV (al ?_));refine af ?_;refine ab (yx (aV (al ?_)));refine aB ?_;exact ab (fN (R9 rfl rfl rfl))
theorem k35{f:bd}{b:Int}:ax prog 35 [.agg (a6 f),I b] (.bp [agV (yC f b) (aip f b),I (yC f b)]):=by
 refine bP ajn (.cons (.agg (oY f)) (.cons (.s _) .nil)) (.bp (.cons (aiQ _ _) (.cons (.s _) .nil))) ?_;rw[ajo];have BH:=BH (f:=f);refine aE ?_;refine aB ?_;refine ab (bj (cr [(0,a6 f,26)] eH (l:=[(1,I b),(2,.pt (a6 f)),(4,.z),(5,I 0)]) eH) (aV (al ?_)));by_cases he:vU f=0
 .have hf:=aiw he;have J:=SQ hf;have hn:=J.BJ;have X:=J.pos;rw[he] at BH;have C:yC f b=if c8 b 0 ((f.blocks.length:Int) - 1)=true then 0 else 1:=if_pos he
  refine SS ?_;refine cl BH ?_;refine SS ?_;refine ab (aV (al ?_));refine af ?_;refine ab (yw (dL (aV (al ?_))));have mi:=mi (n:=b) (a:=0) (b:=(f.blocks.length:Int) - 1);have wC:(f.blocks.length:Int) - 1=(f.blocks.length:Int) - 1/\ -9223372036854775808<=(f.blocks.length:Int) - 1/\(f.blocks.length:Int) - 1<=9223372036854775807:=by omega
  cases hb:c8 b 0 ((f.blocks.length:Int) - 1) with
  |false=>
   rw[hb] at mi C;refine bH ?_;refine cl mi ?_;refine SS ?_;refine ab (yx (aV (al ?_)));refine af ?_;refine ab (fN (R9 rfl rfl ?_));rw[show yC f b=1 from C];rfl
  |true=>
   rw[hb] at mi C;refine bH ?_;refine cl mi ?_;refine SS ?_;refine ab (yw (dL (al ?_)));clear mi wC;obtain⟨k,rfl,hk⟩:=ai4 hb;have BP:=BP (p:=.s (.map none)) (q:=.s (.map none)) (f:=f) (.s _) (.s _) rfl rfl rfl oG (fun b hb=>(J.bJ b hb).fin.wh) (fun b hb=>(J.bJ b hb).to)
   have M:(lq f.blocks)[k]? =some (aip f (k:Int)):=by
    unfold aip;rw[dX];exact OZ rfl hk
   have U:(lq f.blocks).length=f.blocks.length:=by simp[lq]
   generalize aip f (k:Int)=l at M;generalize lq f.blocks=L at BP M U;refine af ?_;refine cl BP ?_;refine bH ?_;refine ab (R9 rfl rfl ?_);rw[show yC f (k:Int)=0 from C];rfl
 .have C:yC f b=vU f:=if_neg he;rw[C];have O:agV (vU f) (aip f b)=.z:=if_neg he;rw[O];generalize vU f=e at BH he;have uG:(e !=0)=true:=by simpa using he
  refine SS ?_;refine cl BH ?_;refine SS ?_;refine ab (aV (al ?_));refine af ?_;refine ab (yx (aV (al ?_)));refine aB ?_;exact ab (fN (R9 rfl rfl rfl))
theorem k91{f:bd}{b:Int}(hs:CY f)(M:∀ b∈f.blocks,b.fin.aJ.length<=10):ax prog 91 [.agg (a6 f),I b] (I (yC f b)):=by
 refine bP ajp (.cons (.agg (oY f)) (.cons (.s _) .nil)) (.s _) ?_;rw[ajq];have BI:=BI hs M;refine aE ?_;refine af ?_;refine ab (bj (cr [(0,a6 f,26)] eH (l:=[(1,I b),(2,.pt (a6 f)),(4,I 0)]) eH) (al ?_));by_cases he:vU f=0
 .have hf:=aiw he;have J:=SQ hf;have hn:=J.BJ;have O:=J.pos;rw[he] at BI;have C:yC f b=if c8 b 0 ((f.blocks.length:Int) - 1)=true then 0 else 1:=if_pos he
  refine SS ?_;refine cl BI ?_;refine SS ?_;refine ab (aV (al ?_));refine af ?_;refine ab (yw (dL (aV (al ?_))));have gQ:=gQ (n:=b) (a:=0) (b:=(f.blocks.length:Int) - 1);have wC:(f.blocks.length:Int) - 1=(f.blocks.length:Int) - 1/\ -9223372036854775808<=(f.blocks.length:Int) - 1/\(f.blocks.length:Int) - 1<=9223372036854775807:=by omega
  cases hb:c8 b 0 ((f.blocks.length:Int) - 1) with
  |false=>
   rw[hb] at gQ C;refine bH ?_;refine cl gQ ?_;refine SS ?_;refine ab (yx (aV (al ?_)));refine SS ?_;refine ab (fN (ap rfl ?_));rw[show yC f b=1 from C];rfl
  |true=>
   rw[hb] at gQ C;refine bH ?_;refine cl gQ ?_;refine SS ?_;refine ab (yw (dL (al ?_)));refine SS ?_;refine ab (ap rfl ?_);rw[show yC f b=0 from C];rfl
 .have C:yC f b=vU f:=if_neg he;rw[C];generalize vU f=e at BI he;have uG:(e !=0)=true:=by simpa using he
  refine SS ?_;refine cl BI ?_;refine SS ?_;refine ab (aV (al ?_));refine af ?_;refine ab (yx (aV (al ?_)));refine af ?_;exact ab (fN (ap rfl rfl))
end Go.Proofs.Tryz.K
namespace Go.Argus
theorem aiR{f:bd}{b:Int}(h:yC f b=0):vU f=0/\∃ k:Nat,b=k/\k<f.blocks.length:=by
 unfold yC at h;split at h
 .rename_i hc;split at h
  .rename_i hb;exact⟨hc,ai4 hb⟩
  .omega
 .rename_i hc;exact absurd h hc
def aiX(b:cE):Bool:=b.ins.any fun x=>x.op==19
def aiS(f:bd):Bool:= !(f.blocks.any aiX)
def aiC(f:bd):Bool:=if vU f=0 then aiS f else false
def agX(b:cE):Bool:=match b.ins with
 |[]=>false
 |y::_=>y.op==19
theorem ajf{f:bd}(h:G6 f){k:Nat}{b:cE}(hb:f.blocks[k]? =some b):agX b=aiX b:=by
 rw[Bool.eq_iff_iff];constructor
 .intro h1;unfold agX at h1;split at h1
  .cases h1
  .rename_i y l hi;exact List.any_eq_true.2 ⟨y,by rw[hi];simp,h1⟩
 .intro h1;obtain⟨x,hx,hp⟩:=List.any_eq_true.1 h1;obtain⟨j,hj⟩:=dY hx;have:=(h.Ia k b hb j x hj (by simpa[cx] using hp)).2;unfold agX;split
  .rename_i hi;rw[hi] at hx;cases hx
  .rename_i y l hi;rw[hi,List.take_succ_cons,List.all_cons,ay] at this;simpa[cx] using this.1
theorem Gf{f:bd}(h:G6 f):f.blocks.all (fun b=> !agX b)=aiS f:=by
 unfold aiS;rw[List.not_any_eq_all_not];rw[Bool.eq_iff_iff,b7,b7];refine forall_congr' fun b=>forall_congr' fun hb=>?_;obtain⟨k,hk⟩:=dY hb;rw[ajf h hk]
def agU(f:bd)(k:Nat):Int:=f.blocks.length+(((f.blocks.take k).map fun b=>b.ins.length).sum:Nat)
def aiG(f:bd):Int:=if vU f=0 then agU f f.blocks.length else 0
theorem ai2{f:bd}{k:Nat}{b:cE}(h:f.blocks[k]? =some b):agU f (k+1)=agU f k+b.ins.length:=by
 unfold agU;rw[List.take_add_one,h,Option.toList_some,List.map_append,List.sum_append];simp only[List.map_cons,List.map_nil,List.sum_cons,List.sum_nil];omega
theorem ai3{f:bd}(hl:∀ b∈f.blocks,b.ins.length<=100000):∀ k,k<=f.blocks.length->0<=agU f k/\agU f k<=f.blocks.length+100000*k
 |0,_=>by simp[agU]
 |k+1,hk=>by
  have ih:=ai3 hl k oG;have hx:f.blocks[k]? =some f.blocks[k]:=bB oG;have:=hl _ (df (h:=(by omega:k<f.blocks.length)));rw[ai2 hx];omega
def eqE(a b:List Int):Bool:=decide (a.length=b.length)&&(range a.length).all fun i=>a.getD i 0==b.getD i 0
theorem ajh(a b:List Int):eqE a b=decide (a=b):=by
 unfold eqE;by_cases h:a=b
 .subst h;simp
 .rw[decide_eq_false h,Bool.and_eq_false_iff];by_cases hl:a.length=b.length
  .right;rw[List.all_eq_false];apply Classical.byContradiction;intro hn;refine h (List.ext_getElem hl fun i h1 h2=>?_);apply Classical.byContradiction;intro C;exact hn ⟨i,by simpa using h1,by simpa[h1,h2] using C⟩
  .left;simp[hl]
theorem ai'{l:List Int}{i:Nat}{x:Int}(h:l[i]? =some x):l.getD i 0=x:=by simp[h]
theorem aji{n i:Nat}{p:Nat->Bool}(hi:i<n)(h:p i=false):(range n).all p=false:=by
 rw[List.all_eq_false];exact⟨i,by simpa using hi,by simp[h]⟩
theorem ajg{i:Nat}{p:Nat->Bool}(h:(range i).all p=true)(hp:p i=true):(range (i+1)).all p=true:=by
 rw[List.range_succ,List.all_append,h];simp[hp]
theorem aje{f:bd}{b:Int}(h:yC f b=0):(ait f b).length<=100000:=by
 obtain⟨hc,k,rfl,hk⟩:=aiR h;have C:=SQ (aiw hc);have:=(C.bJ _ (df hk)).fin.wh;have hx:f.blocks[k]? =some f.blocks[k]:=bB hk;unfold ait;rw[dX,hx];have:=Fb f.blocks[k].fin;dsimp only;omega
theorem ajb{f:bd}{b:Int}(h:yC f b=0):(aip f b).length<=100000:=by
 obtain⟨hc,k,rfl,hk⟩:=aiR h;have C:=SQ (aiw hc);have:=C.BJ;have:=IV (bs:=f.blocks) (fun b hb=>Nat.le_trans (C.bJ b hb).fin.wh oC) f.blocks.length ((k:Int).toNat);unfold aip;omega
end Go.Argus
namespace Go.Proofs.Tryz.K
set_option maxHeartbeats 1000000
theorem k34{f:bd}{b:Int}(hs:CY f)(J:∀ b∈f.blocks,b.fin.aJ.length<=10):ax prog 34 [.agg (a6 f),I b] (.bp [agV (yC f b) (ait f b),I (yC f b)]):=by
 refine bP ajr (.cons (.agg (oY f)) (.cons (.s _) .nil)) (.bp (.cons (aiQ _ _) (.cons (.s _) .nil))) ?_;rw[ajs];have k91:=k91 (b:=b) hs J;refine aE ?_;refine aB ?_;refine ab (bj (cr [(0,a6 f,26)] eH (l:=[(1,I b),(2,.pt (a6 f)),(4,.z),(5,I 0)]) eH) (al ?_));by_cases he:yC f b=0
 .rw[he] at k91;rw[he];obtain⟨hc,k,rfl,hk⟩:=aiR he;have M:=T7 (aiw hc);have hx:f.blocks[k]? =some f.blocks[k]:=bB hk;have C:f.blocks[k]∈f.blocks:=df _
  have U:ait f (k:Int)=nextR f.blocks[k].fin:=by
   unfold ait;rw[dX,hx]
  have tF:=tF hx (by have:=J _ C;omega);rw[(M.ed _ C).2, <- U] at tF;generalize ait f (k:Int)=l at tF;refine af ?_;refine cl k91 ?_;refine SS ?_;refine ab (aV (al ?_));refine af ?_;refine ab (yw (dL (al ?_)));refine af ?_;refine cl tF ?_;refine af ?_;exact ab (R9 rfl rfl rfl)
 .have O:agV (yC f b) (ait f b)=.z:=if_neg he;rw[O];generalize yC f b=e at k91 he;have uG:(e !=0)=true:=by simpa using he
  refine af ?_;refine cl k91 ?_;refine SS ?_;refine ab (aV (al ?_));refine af ?_;refine ab (yx (aV (al ?_)));refine aB ?_;exact ab (fN (R9 rfl rfl rfl))
theorem k36{f:bd}{b:Int}(hs:CY f)(M:∀ b∈f.blocks,b.fin.aJ.length<=10):ax prog 36 [.agg (a6 f),I b] (.bp [agV (yC f b) (aip f b),I (yC f b)]):=by
 refine bP ajt (.cons (.agg (oY f)) (.cons (.s _) .nil)) (.bp (.cons (aiQ _ _) (.cons (.s _) .nil))) ?_;rw[aju];have k91:=k91 (b:=b) hs M;refine aE ?_;refine aB ?_;refine ab (bj (cr [(0,a6 f,26)] eH (l:=[(1,I b),(2,.pt (a6 f)),(4,.z),(5,I 0)]) eH) (al ?_));by_cases he:yC f b=0
 .rw[he] at k91;rw[he];obtain⟨hc,k,rfl,hk⟩:=aiR he;have hf:=aiw hc;have C:=T7 hf;have U:=C.ok.BJ;have xq:=xq (f:=f) rfl oG M (fun b hb t ht=>by rw[(C.ed b hb).2] at ht;exact(C.ok.bJ b hb).to t ht)
  have J:(o0 f.blocks)[k]? =some (aip f (k:Int)):=by
   unfold aip;rw[dX, <- PK (Xa hf)];simp[o0,hk]
  generalize aip f (k:Int)=l at J;generalize o0 f.blocks=L at xq J;refine af ?_;refine cl k91 ?_;refine SS ?_;refine ab (aV (al ?_));refine af ?_;refine ab (yw (dL (al ?_)));refine SS ?_;refine cl xq ?_;refine bH ?_;exact ab (R9 rfl rfl rfl)
 .have O:agV (yC f b) (aip f b)=.z:=if_neg he;rw[O];generalize yC f b=e at k91 he;have uG:(e !=0)=true:=by simpa using he
  refine af ?_;refine cl k91 ?_;refine SS ?_;refine ab (aV (al ?_));refine af ?_;refine ab (yx (aV (al ?_)));refine aB ?_;exact ab (fN (R9 rfl rfl rfl))
theorem k98{l:List bS}{g:FuncId}{fs cs:List D}{p:bS->Bool}(hl:l.length<=1000000)(ht:Tr (.fn (.func g) fs cs))(hg:∀ x∈l,ax prog g (fs++[.agg (bF x)]++cs) (B (p x))):ax prog 98 [iL l,.fn (.func g) fs cs] (I (s8 p l)):=by
 refine bP ajv (.cons (.sl (.flat qP)) (.cons ht .nil)) (Tr.s _) ?_;rw[ajw];refine ws ?_;refine SS ?_;refine ab (aV (aE ?_));refine aB ?_
 refine ab (dA (fun s=>aR prog s ⟨aH [],fun _=>none,0⟩/\∀ (j:Nat) y,l[j]? =some y->p y=false) (iK (α:=Nat) (fun k=>⟨aH [(0,iL l),(1,.fn (.func g) fs cs),(7,I l.length),(8,I k)],fun _=>none,0⟩)
  (fun k=>k<=l.length/\∀ j y,j<k->l[j]? =some y->p y=false) (fun k=>l.length - k) 0 (aq eH) ⟨oG,fun j y hj=>by omega⟩ ?_) ?_)
 .rintro k ⟨hk,hinv⟩;refine SS ?_;refine ab ⟨_,rfl,fun h=>?_,fun h=>?_⟩
  .have aj:k<l.length:=by simpa using h
   obtain⟨x,hx⟩:∃ x,l[k]? =some x:=⟨_,bB aj⟩
   have J:=hg x (cX hx);refine ws ?_;refine af ?_;refine er ?_;refine bH ?_;refine cl J ?_;refine ab (an rfl (fun hp=>?_) fun hp=>?_)
   .refine ws ?_;refine af ?_;refine ab (bh (dp (aY (ap rfl ?_))));rw[E8 hx hp hinv];rfl
   .refine eC ?_;refine af ?_;refine ab (bD (k+1) (aq eH) ⟨oG,fun j y hj hy=>?_⟩ oG);by_cases e:j=k
    .subst e;rw[hx] at hy;cases hy;exact hp
    .exact hinv j y oG hy
  .have M:¬ k<l.length:=by simpa using h
   exact⟨.forget _ _ _ _ fun _=>.inr rfl,fun j y hy=>hinv j y (by have:=(bZ.1 hy).1;omega) hy⟩
 .rintro s ⟨hg,C⟩;refine⟨_,hg,al ?_⟩;refine SS ?_;refine ab (ap rfl ?_);rw[E' C];rfl
theorem k96{l:List bS}{g:FuncId}{fs cs:List D}{p:bS->Bool}(hl:l.length<=1000000)(ht:Tr (.fn (.func g) fs cs))(hg:∀ x∈l,ax prog g (fs++[.agg (bF x)]++cs) (B (p x))):ax prog 96 [iL l,.fn (.func g) fs cs] (B (l.any p)):=by
 have k98:=k98 hl ht hg;refine bP ajx (.cons (.sl (.flat qP)) (.cons ht .nil)) (Tr.s _) ?_;rw[ajy];refine ws ?_;refine SS ?_;refine er ?_;refine af ?_;refine cl k98 ?_;refine af ?_;refine ab (ap rfl ?_);rw[<- Fq];rfl
theorem ai5{l:List Argus.cE}{g:FuncId}{fs cs:List D}{p:Argus.cE->Bool}(hl:l.length<=1000000)(ht:Tr (.fn (.func g) fs cs))(hg:∀ x∈l,ax prog g (fs++[.agg (gR x)]++cs) (B (p x))):ax prog 173 [gl l,.fn (.func g) fs cs] (I (s8 p l)):=by
 refine bP ajj (.cons (.sl (.flat Py)) (.cons ht .nil)) (Tr.s _) ?_;rw[ajk];refine ws ?_;refine SS ?_;refine ab (aV (aE ?_));refine aB ?_
 refine ab (dA (fun s=>aR prog s ⟨aH [],fun _=>none,0⟩/\∀ (j:Nat) y,l[j]? =some y->p y=false) (iK (α:=Nat) (fun k=>⟨aH [(0,gl l),(1,.fn (.func g) fs cs),(7,I l.length),(8,I k)],fun _=>none,0⟩)
  (fun k=>k<=l.length/\∀ j y,j<k->l[j]? =some y->p y=false) (fun k=>l.length - k) 0 (aq eH) ⟨oG,fun j y hj=>by omega⟩ ?_) ?_)
 .rintro k ⟨hk,hinv⟩;refine SS ?_;refine ab ⟨_,rfl,fun h=>?_,fun h=>?_⟩
  .have aj:k<l.length:=by simpa using h
   obtain⟨x,hx⟩:∃ x,l[k]? =some x:=⟨_,bB aj⟩
   have J:=hg x (cX hx);refine ws ?_;refine af ?_;refine er ?_;refine bH ?_;refine cl J ?_;refine ab (an rfl (fun hp=>?_) fun hp=>?_)
   .refine ws ?_;refine af ?_;refine ab (bh (dp (aY (ap rfl ?_))));rw[E8 hx hp hinv];rfl
   .refine eC ?_;refine af ?_;refine ab (bD (k+1) (aq eH) ⟨oG,fun j y hj hy=>?_⟩ oG);by_cases e:j=k
    .subst e;rw[hx] at hy;cases hy;exact hp
    .exact hinv j y oG hy
  .have M:¬ k<l.length:=by simpa using h
   exact⟨.forget _ _ _ _ fun _=>.inr rfl,fun j y hy=>hinv j y (by have:=(bZ.1 hy).1;omega) hy⟩
 .rintro s ⟨hg,C⟩;refine⟨_,hg,al ?_⟩;refine SS ?_;refine ab (ap rfl ?_);rw[E' C];rfl
theorem k94{l:List Argus.cE}{g:FuncId}{fs cs:List D}{p:Argus.cE->Bool}(hl:l.length<=1000000)(ht:Tr (.fn (.func g) fs cs))(hg:∀ x∈l,ax prog g (fs++[.agg (gR x)]++cs) (B (p x))):ax prog 94 [gl l,.fn (.func g) fs cs] (B (l.any p)):=by
 have ai5:=ai5 hl ht hg;refine bP ajz (.cons (.sl (.flat Py)) (.cons ht .nil)) (Tr.s _) ?_;rw[ajA];refine ws ?_;refine SS ?_;refine er ?_;refine af ?_;refine cl ai5 ?_;refine af ?_;refine ab (ap rfl ?_);rw[<- Fq];rfl
theorem k97{x:bS}:ax prog 97 [.agg (bF x)] (B (x.op==19)):=by
 refine bP ajB (.cons (.agg (qP x)) .nil) (Tr.s _) ?_;rw[ajC];refine aE ?_;refine af ?_;refine ab (bj (cr [(0,bF x,45)] eH (l:=[(1,.pt (bF x))]) eH) (al ?_));refine a7 ?_;exact ab (ap rfl rfl)
theorem k95{x:Argus.cE}(hl:x.ins.length<=1000000):ax prog 95 [.agg (gR x)] (B (aiX x)):=by
 refine bP ajD (.cons (.agg (Py x)) .nil) (Tr.s _) ?_;rw[ajE];have k96:=k96 (l:=x.ins) (g:=97) (fs:=[]) (cs:=[]) (p:=fun y=>y.op==19) hl (.fn oS oS) (fun y _=>k97);refine aE ?_;refine cM (sG (cs:=gR _) rfl) ak (by first|rfl|exact tO gi eS|exact oB _|exact ur cK) ?_;refine SS ?_;refine ab (bj (cr [(0,gR x,69)] eH (l:=[(1,.pt (gR x))]) eH) (al ?_));refine af ?_;refine cl k96 ?_;refine SS ?_;exact ab (ap rfl rfl)
theorem k37{f:bd}:ax prog 37 [.agg (a6 f)] (.bp [B (aiC f),I (vU f)]):=by
 refine bP ajF (.cons (.agg (oY f)) .nil) (.bp (.cons (.s _) (.cons (.s _) .nil))) ?_;rw[ajG];have BH:=BH (f:=f);refine aE ?_;refine aB ?_;refine ab (bj (cr [(0,a6 f,26)] eH (l:=[(1,.pt (a6 f)),(2,B false),(3,I 0)]) eH) (aV (al ?_)));by_cases he:vU f=0
 .have J:=SQ (aiw he);have hn:=J.BJ;have C:aiC f=aiS f:=if_pos he;rw[C];rw[he] at BH ⊢;have k94:=k94 (l:=f.blocks) (g:=95) (fs:=[]) (cs:=[]) (p:=aiX) oG (.fn oS oS) (fun b hb=>k95 (by have:=(J.bJ b hb).len;omega));refine SS ?_;refine cl BH ?_;refine SS ?_;refine ab (aV (al ?_));refine af ?_;refine ab (yw (dL (al ?_)));refine af ?_;refine cl k94 ?_;refine aB ?_;exact ab (R9 rfl rfl rfl)
 .have C:aiC f=false:=if_neg he;rw[C];generalize vU f=e at BH he;have uG:(e !=0)=true:=by simpa using he
  refine SS ?_;refine cl BH ?_;refine SS ?_;refine ab (aV (al ?_));refine af ?_;refine ab (yx (aV (al ?_)));refine aB ?_;exact ab (fN (R9 rfl rfl rfl))
theorem k38{f:bd}(hs:CY f)(X:∀ b∈f.blocks,b.fin.aJ.length<=10):ax prog 38 [.agg (a6 f)] (.bp [B (aiC f),I (vU f)]):=by
 refine bP ajH (.cons (.agg (oY f)) .nil) (.bp (.cons (.s _) (.cons (.s _) .nil))) ?_;rw[ajI];have BI:=BI hs X;refine aE ?_;refine aB ?_;refine ab (bj (cr [(0,a6 f,26)] eH (l:=[(1,.pt (a6 f)),(2,B false),(3,I 0)]) eH) (al ?_));by_cases he:vU f=0
 .have O:=T7 (aiw he);have J:=O.ok;have hn:=J.BJ;have C:aiC f=f.blocks.all (fun b=> !agX b):=(if_pos he).trans (Gf O).symm;rw[C];rw[he] at BI ⊢;refine SS ?_;refine cl BI ?_;refine SS ?_;refine ab (aV (al ?_));refine af ?_;refine ab (yw (dL (aV (aE ?_))));refine SS ?_
  refine ab (dA (fun s=>aR prog s ⟨aH [],fun _=>none,1⟩/\f.blocks.all (fun b=> !agX b)=true) (eX (α:=Nat) (fun k=>⟨aH [(1,.pt (a6 f)),(5,I k)],fun _=>none,1⟩)
   (fun k=>k<=f.blocks.length/\(f.blocks.take k).all (fun b=> !agX b)=true) (fun k=>f.blocks.length - k) 0 (aq eH) ⟨Nat.zero_le _,rfl⟩ ?_) ?_)
  .rintro k ⟨hk,hinv⟩;refine bH ?_;refine ab ⟨_,rfl,fun h=>?_,fun h=>?_⟩
   .have aj:k<f.blocks.length:=by simpa using h
    obtain⟨x,hx⟩:∃ x,f.blocks[k]? =some x:=⟨_,bB aj⟩
    have M:=cX hx;have qz:=(J.bJ x M).len;refine ws ?_;refine fS ?_;refine er ?_;cases hi:x.ins with
    |nil=>
     have gi:agX x=false:=by unfold agX;rw[hi]
     have s7:decide ((0:Int)<(([]:List bS).length:Int))=false:=rfl;refine a7 ?_;(iterate 5 refine z fun _ _=>?_);refine SS ?_;refine ab (akG (eC ?_));refine aB ?_;refine ab (bD (k+1) (aq eH) ⟨oG,?_⟩ oG);rw[List.take_add_one,hx,List.all_append,hinv];show(true&&((!agX x)&&true))=true;rw[gi];rfl
    |cons y t=>
     have h0:(y::t)[0]? =some y:=rfl;have gi:agX x=(y.op==19):=by unfold agX;rw[hi]
     have s7:decide ((0:Int)<((y::t).length:Int))=true:=by simp
     refine cT ?_;refine af ?_;refine ab (an rfl (fun hp=>al ?_) fun hp=>eC ?_)
     .refine af ?_;refine ab (bh (dp (aY (R9 (d:=B false) rfl rfl ?_))))
      have:f.blocks.all (fun b=> !agX b)=false:=by
       refine Bool.eq_false_iff.2 fun ht=>?_;have:=b7.1 ht x M;rw[gi,show(y.op==19)=true from hp] at this;cases this
      rw[this];rfl
     .refine aB ?_;refine ab (bD (k+1) (aq eH) ⟨oG,?_⟩ oG);rw[List.take_add_one,hx,List.all_append,hinv];show(true&&((!agX x)&&true))=true;rw[gi,show(y.op==19)=false from hp];rfl
   .have bL:¬ k<f.blocks.length:=by simpa using h
    rw[dO oG] at hinv;exact⟨aq trivial,hinv⟩
  .rintro s ⟨hg,U⟩;rw[U];refine⟨_,hg,al ?_⟩;refine af ?_;exact ab (R9 rfl rfl rfl)
 .have C:aiC f=false:=if_neg he;rw[C];generalize vU f=e at BI he;have uG:(e !=0)=true:=by simpa using he
  refine SS ?_;refine cl BI ?_;refine SS ?_;refine ab (aV (al ?_));refine af ?_;refine ab (yx (aV (al ?_)));refine aB ?_;exact ab (fN (R9 rfl rfl rfl))
theorem k39{f:bd}:ax prog 39 [.agg (a6 f)] (.bp [I (aiG f),I (vU f)]):=by
 refine bP ajJ (.cons (.agg (oY f)) .nil) (.bp (.cons (.s _) (.cons (.s _) .nil))) ?_;rw[ajK];have BH:=BH (f:=f);refine aE ?_;refine aB ?_;refine ab (bj (cr [(0,a6 f,26)] eH (l:=[(1,.pt (a6 f)),(2,I 0),(3,I 0)]) eH) (aV (al ?_)));by_cases he:vU f=0
 .have J:=SQ (aiw he);have hn:=J.BJ;have M:aiG f=agU f f.blocks.length:=if_pos he;rw[M];rw[he] at BH ⊢;have O:=ai3 (f:=f) (fun b hb=>(J.bJ b hb).len);refine SS ?_;refine cl BH ?_;refine SS ?_;refine ab (aV (al ?_));refine af ?_;refine ab (yw (dL (al ?_)));refine a7 ?_;refine ab (aV (aE ?_));refine a7 ?_
  refine ab (dA (fun s=>∃ nx,aR prog s ⟨aH [(5,I (agU f f.blocks.length))],fun _=>none,nx⟩) (iK (α:=Nat×Nat) (fun k=>⟨aH [(1,.pt (a6 f)),(5,I (agU f k.1)),(17,gl f.blocks),(18,I f.blocks.length),(19,I k.1)],fun _=>none,k.2⟩)
   (fun k=>k.1<=f.blocks.length) (fun k=>f.blocks.length - k.1) (0,1) (aq ⟨rfl,congrArg I (show(f.blocks.length:Int)=agU f 0 by simp[agU]),rfl,rfl,rfl,trivial⟩) (Nat.zero_le _) ?_) ?_)
  .rintro⟨k,nx⟩ hk;dsimp only at hk ⊢;have hb:=O k hk;refine SS ?_;refine ab ⟨_,rfl,fun h=>?_,fun h=>?_⟩
   .have aj:k<f.blocks.length:=by simpa using h
    obtain⟨x,hx⟩:∃ x,f.blocks[k]? =some x:=⟨_,bB aj⟩
    have U:=cX hx;have qz:=(J.bJ x U).len;have C:=ai2 hx;generalize agU f k=S at hb C;refine aE ?_;refine a7 ?_;refine ab (bj (sj (i:=nx) (l:=[(1,.pt (a6 f)),(5,I S),(7,.pt (gR x)),(17,gl f.blocks),(18,I f.blocks.length),(19,I k)]) (au _ _ _) ⟨rfl,rfl,nt,rfl,rfl,rfl,trivial⟩) (se ?_));refine cY ?_;refine ab (show aw _ _ _ _ _ _ _ _ _ from ?_);refine af ?_;exact ab (bD (k+1,nx+1) (aq ⟨rfl,congrArg I C.symm,rfl,rfl,rfl,trivial⟩) (show k+1<=_ by omega) oM)
   .have X:¬ k<f.blocks.length:=by simpa using h
    have:k=f.blocks.length:=by omega
    subst this;exact⟨nx,aq eH⟩
  .rintro s ⟨nx,hg⟩;refine⟨_,hg,al ?_⟩;refine aB ?_;exact ab (R9 rfl rfl rfl)
 .have M:aiG f=0:=if_neg he;rw[M];generalize vU f=e at BH he;have uG:(e !=0)=true:=by simpa using he
  refine SS ?_;refine cl BH ?_;refine SS ?_;refine ab (aV (al ?_));refine af ?_;refine ab (yx (aV (al ?_)));refine aB ?_;exact ab (fN (R9 rfl rfl rfl))
theorem k40{f:bd}(hs:CY f)(X:∀ b∈f.blocks,b.fin.aJ.length<=10):ax prog 40 [.agg (a6 f)] (.bp [I (aiG f),I (vU f)]):=by
 refine bP ajL (.cons (.agg (oY f)) .nil) (.bp (.cons (.s _) (.cons (.s _) .nil))) ?_;rw[ajM];have BI:=BI hs X;refine aE ?_;refine aB ?_;refine ab (bj (cr [(0,a6 f,26)] eH (l:=[(1,.pt (a6 f)),(2,I 0),(3,I 0)]) eH) (al ?_));by_cases he:vU f=0
 .have J:=SQ (aiw he);have hn:=J.BJ;have M:aiG f=agU f f.blocks.length:=if_pos he;rw[M];rw[he] at BI ⊢;have O:=ai3 (f:=f) (fun b hb=>(J.bJ b hb).len);refine SS ?_;refine cl BI ?_;refine SS ?_;refine ab (aV (al ?_));refine af ?_;refine ab (yw (dL (al ?_)));refine a7 ?_;refine ab (aV (aE ?_));refine SS ?_
  refine ab (dA (fun s=>aR prog s ⟨aH [(5,I (agU f f.blocks.length))],fun _=>none,1⟩) (eX (α:=Nat) (fun k=>⟨aH [(1,.pt (a6 f)),(5,I (agU f k)),(6,I k)],fun _=>none,1⟩)
   (fun k=>k<=f.blocks.length) (fun k=>f.blocks.length - k) 0 (aq ⟨rfl,congrArg I (show(f.blocks.length:Int)=agU f 0 by simp[agU]),rfl,trivial⟩) (Nat.zero_le _) ?_) ?_)
  .rintro k hk;have hb:=O k hk;refine bH ?_;refine ab ⟨_,rfl,fun h=>?_,fun h=>?_⟩
   .have aj:k<f.blocks.length:=by simpa using h
    obtain⟨x,hx⟩:∃ x,f.blocks[k]? =some x:=⟨_,bB aj⟩
    have U:=cX hx;have qz:=(J.bJ x U).len;have C:=ai2 hx;generalize agU f k=S at hb C;refine se ?_;refine cT ?_;refine af ?_;refine ab (show aw _ _ _ _ _ _ _ _ _ from ?_);refine aB ?_;exact ab (bD (k+1) (aq ⟨rfl,congrArg I C.symm,rfl,trivial⟩) (show k+1<=_ by omega) oG)
   .have bL:¬ k<f.blocks.length:=by simpa using h
    have:k=f.blocks.length:=by omega
    subst this;exact aq eH
  .rintro s hg;refine⟨_,hg,al ?_⟩;refine aB ?_;exact ab (R9 rfl rfl rfl)
 .have M:aiG f=0:=if_neg he;rw[M];generalize vU f=e at BI he;have uG:(e !=0)=true:=by simpa using he
  refine SS ?_;refine cl BI ?_;refine SS ?_;refine ab (aV (al ?_));refine af ?_;refine ab (yx (aV (al ?_)));refine aB ?_;exact ab (fN (R9 rfl rfl rfl))
end Go.Proofs.Tryz.K
namespace Go.Proofs.Tryz.K
theorem k24{a b:List Int}(ha:a.length<=100000):ax prog 24 [aX a,aX b] (B (eqE a b)):=by
 refine bP ajN (.cons (ew a) (.cons (ew b) .nil)) (Tr.s _) ?_;rw[ajO];refine ws ?_;refine SS ?_;refine ab (aV (al ?_));refine bH ?_;refine ab (dI rfl (fun h=>aV (al ?_)) fun h=>dL (aV (aE ?_)))
 .have h:¬ a.length=b.length:=fun e=>by rw[e] at h;simp at h
  unfold eqE;rw[decide_eq_false h,Bool.false_and];refine SS ?_;exact ab (fN (ap rfl rfl))
 have h:a.length=b.length:=by
  have:(a.length:Int)=b.length:=by simpa using h
  omega
 unfold eqE;rw[decide_eq_true h,Bool.true_and];refine aB ?_
 refine ab (dA (fun s=>∃ m nx,aR prog s ⟨aH [],m,nx⟩/\(range a.length).all (fun i=>a.getD i 0==b.getD i 0)=true) (iK (α:=Nat×Mem×Nat)
  (fun s=>⟨aH [(0,aX a),(1,aX b),(12,I a.length),(13,I s.1)],s.2.1,s.2.2⟩)
  (fun s=>s.1<=a.length/\(range s.1).all (fun i=>a.getD i 0==b.getD i 0)=true) (fun s=>a.length - s.1) (0,_,_)
  (aq eH) ⟨Nat.zero_le _,rfl⟩ ?_) ?_)
 .rintro⟨i,m,nx⟩ ⟨hi,C⟩;dsimp only at hi C ⊢;refine SS ?_;refine ab ⟨_,rfl,fun h=>?_,fun h=>?_⟩
  .have M:i<a.length:=by simpa using h
   obtain⟨x,hx⟩:∃ x,a[i]? =some x:=⟨_,bB M⟩
   obtain⟨y,hy⟩:∃ y,b[i]? =some y:=⟨_,bB oG⟩
   have hp:(a.getD i 0==b.getD i 0)=(x==y):=by rw[ai' hx,ai' hy]
   refine ws ?_;refine af ?_;refine ab (eF ajc ?_);refine bn ?_;refine bX bY (an rfl (fun h=>al ?_) fun h=>eC ?_)
   .have hf:(x==y)=false:=by simpa using h
    rw[aji M (hp.trans hf)];refine SS ?_;exact ab (bh (dp (aY (ap rfl rfl))))
   .have hf:(x==y)=true:=by simpa using h
    refine af ?_;exact ab (bD (i+1,m,nx) (aq eH) ⟨oM,ajg C (hp.trans hf)⟩ oM)
  .have O:¬ i<a.length:=by simpa using h
   have:i=a.length:=by omega
   subst this;exact⟨m,nx,aq trivial,C⟩
 .rintro s ⟨m,nx,J,C⟩;rw[C];refine⟨_,J,al ?_⟩;refine SS ?_;exact ab (ap rfl rfl)
end Go.Proofs.Tryz.K
namespace Go.Abs
theorem ajd{P:Program}{f:FuncId}{args C:List D}{r:D}(hc:ax P f C r)(hl:C.length=args.length)(h:∀ (k:Nat) (d d':D),args[k]? =some d->C[k]? =some d'->Wk d d')(ht:∀ a∈args,Tr a):ax P f args r:=by
 refine⟨hc.1,ht,fun F w vs M hR=>hc.2.2 F w vs M ⟨by rw[hR.1,hl],fun k d' v J hv=>?_⟩⟩;have hk:k<args.length:=by have:=(bZ.1 J).1;omega
 exact h k args[k] d' (bB hk) J F _ w v (hR.2 k args[k] v (bB hk) hv)
end Go.Abs
namespace Go.Proofs.Tryz.K
theorem ai6{l:List Int}(h:l.length<=100000):ax prog 24 [aX l,aX l] (B true):=by
 have:=k24 (a:=l) (b:=l) h
 rwa[ajh,decide_eq_true rfl] at this
theorem ajP:ax prog 24 [.z,.z] (B true):=by
 refine ajd (ai6 (l:=[]) oC) rfl (fun k d d' h1 h2=>?_) (.cons .z (.cons .z .nil))
 match k with
 |0=>simp at h1 h2;subst h1 h2;exact ahb
 |1=>simp at h1 h2;subst h1 h2;exact ahb
theorem k8{f:bd}{b:Int}(hs:CY f):ax prog 8 [.agg (a6 f),I b] (B true):=by
 refine bP ok8 (.cons (.agg (oY f)) (.cons (.s _) .nil)) (Tr.s _) ?_;rw[sk8];have BG:=BG;have xd:=xd (f:=f);refine aE ?_;refine af ?_;refine ab (bj (cr [(0,a6 f,26)] eH (l:=[(1,I b),(2,.pt (a6 f))]) eH) (aV (al ?_)));cases hb:vT f with
 |false=>
  rw[hb] at xd;refine SS ?_;refine cl xd ?_;refine SS ?_;refine ab (yx (aV (al ?_)));refine cl BG ?_;refine SS ?_;exact ab (fN (ap rfl rfl))
 |true=>
  rw[hb] at xd;have M:=Z8 hb;have k33:=k33 (f:=f) (b:=b);have k34:=k34 (b:=b) hs M;have k35:=k35 (f:=f) (b:=b);have k36:=k36 (b:=b) hs M;have k37:=k37 (f:=f);have k38:=k38 hs M;have k39:=k39 (f:=f);have k40:=k40 hs M;have zz:=aje (f:=f) (b:=b);have zo:=ajb (f:=f) (b:=b);generalize ait f b=l1 at*
  generalize aip f b=l2 at*
  generalize aiC f=p at*
  generalize aiG f=n at*
  generalize vU f=c at*
  generalize yC f b=e at*
  refine SS ?_;refine cl xd ?_;refine SS ?_;refine ab (yw (dL (al ?_)));have U:(p==p)=true:=beq_self_eq_true _;have J:(c==c)=true:=beq_self_eq_true _;have C:(e==e)=true:=beq_self_eq_true _;have X:(n==n)=true:=beq_self_eq_true _;by_cases he:e=0
  .have k24:=ai6 (zz he);have O:=ai6 (zo he);rw[show agV e l1=aX l1 from if_pos he] at k33 k34;rw[show agV e l2=aX l2 from if_pos he] at k35 k36;refine af ?_;refine cl k33 ?_;refine bH ?_;refine er ?_;refine af ?_;refine cl k34 ?_;refine bH ?_;refine er ?_;refine af ?_;refine cl k35 ?_;refine bH ?_;refine er ?_;refine af ?_;refine cl k36 ?_;refine bH ?_;refine er ?_;refine SS ?_;refine cl k37 ?_;refine bH ?_;refine er ?_;refine SS ?_;refine cl k38 ?_;refine bH ?_;refine er ?_;refine SS ?_;refine cl k39 ?_;refine bH ?_;refine er ?_;refine SS ?_;refine cl k40 ?_;refine bH ?_;refine er ?_;refine cl BG ?_;refine aB ?_;refine gc k24 ?_;refine bH ?_;rw[C];refine a7 ?_;refine gc O ?_;refine bH ?_;rw[C];refine bH ?_;rw[U];refine bH ?_;rw[J];refine bH ?_;rw[X];refine bH ?_;rw[J];refine af ?_;exact ab (ap rfl rfl)
  .have k24:=ajP;rw[show agV e l1=.z from if_neg he] at k33 k34;rw[show agV e l2=.z from if_neg he] at k35 k36;refine af ?_;refine cl k33 ?_;refine bH ?_;refine er ?_;refine af ?_;refine cl k34 ?_;refine bH ?_;refine er ?_;refine af ?_;refine cl k35 ?_;refine bH ?_;refine er ?_;refine af ?_;refine cl k36 ?_;refine bH ?_;refine er ?_;refine SS ?_;refine cl k37 ?_;refine bH ?_;refine er ?_;refine SS ?_;refine cl k38 ?_;refine bH ?_;refine er ?_;refine SS ?_;refine cl k39 ?_;refine bH ?_;refine er ?_;refine SS ?_;refine cl k40 ?_;refine bH ?_;refine er ?_;refine cl BG ?_;refine aB ?_;refine gc k24 ?_;refine bH ?_;rw[C];refine a7 ?_;refine gc k24 ?_;refine bH ?_;rw[C];refine bH ?_;rw[U];refine bH ?_;rw[J];refine bH ?_;rw[X];refine bH ?_;rw[J];refine af ?_;exact ab (ap rfl rfl)
end Go.Proofs.Tryz.K
end
