/- Part 6 of the proof; the last part says what is proved. -/
import Derived.Test.YtonoegleildfnaaGreatTrees5
section
open Go Go.Abs Go.Proofs Go.Argus
namespace Go.Argus
open Go.Proofs.Tryz.K (nextR)
@[simp] theorem Mw (p : Bool × D) : (nF p).length = 2 := rfl
theorem XH{f:az}(h:jI f=true):∀ b∈f.blocks,iR f b.fin=true:=fun b hb=>by
 unfold jI at h
 simp only[Bool.and_eq_true] at h
 obtain⟨_,_,_,h4,_⟩:=h
 obtain⟨k,hk⟩:=List.getElem?_of_mem hb
 have:=List.all_eq_true.1 h4 k (by simpa using(List.getElem?_eq_some_iff.1 hk).1)
 unfold iP at this
 simp only[getD_some hk,Bool.and_eq_true] at this
 exact this.1
theorem NK{f:az}{k:Nat}{x:bw}(h:f.blocks[k]? =some x):aU f k=nextR x.fin:=by
 unfold aU aQ cy
 rw[List.getD_eq_getElem?_getD,List.getElem?_map,h];rfl
theorem abm{l:List Bool}{b:Nat}(hb:b<l.length)(h:l.getD b false=false):(l.set b true).count false<l.count false:=by
 have:=uQ (uR h hb)
 omega
end Go.Argus
namespace Go.Proofs.Tryz.K
set_option maxRecDepth 10000
set_option maxHeartbeats 2000000 in
theorem s9{f:az}(hs:tF f)(hw:∀ b∈f.blocks,b.fin.aD.length<=9):PCall prog 55 [.agg (aB f)] (I (eh f)):=by
 rw[<- Zd]
 have zP:=zP hs hw
 have F0:Ij f=if tt f=true then(if(List.range f.blocks.length).all (oB f (gJ f.blocks f.args.toNat))=true then 0 else 81) else 80:=rfl
 refine aY mixed Vn (by rw[alu];rfl) (.cons (.agg (gp f)) .nil) (Tr.s _) ?_
 rw[alv,alw,F0]
 clear F0
 refine aq ?_
 refine ia ?_;refine J3 ?_
 refine ab (aJ (bg [(0,aB f,26)] eH (l:=[(1,.pt (aB f))]) eH) (ag ?_))
 cases hf:tt f with
 |false=>
  rw[hf] at zP
  refine dh ?_;refine cl zP ?_;refine J1 ?_
  refine ab (aC (ag ?_))
  refine J2 ?_;refine cS ?_
  refine ab (bp rfl (fun _=>?_) fun h=>(by cases h))
  refine aC (ag ?_)
  refine J3 ?_
  exact ab (dn (ap rfl rfl))
 |true=>
 rw[hf] at zP
 rw[if_pos rfl]
 rw[Mx] at hf
 have he:=XH hf
 have hF:=ER hf
 have zS:=zS hF hw
 have hR:=hF.ok.af
 have hS:=hF.sl
 have Dj:=hF.ok.nS
 have wL:=wL (f:=f) rfl oG hw (fun b hb t ht=>by rw[(hF.ed b hb).2] at ht;exact(hF.ok.blk b hb).to t ht)
 have WK:∀ k,k<f.blocks.length->(n9 f.blocks)[k]? =some (bf f.blocks f.blocks.length k):=fun k hk=>by
  rw[<- M3 he];simp[n9,hk]
 have Gh:(n9 f.blocks).length=f.blocks.length:=by simp[n9]
 generalize n9 f.blocks=L at wL WK Gh
 have WL:BH f (gJ f.blocks f.args.toNat)=.sl ((eB f.af.length (f.af.length+f.aL.length) f.blocks.length (gJ f.blocks f.args.toNat)).flatMap nF) (eB f.af.length (f.af.length+f.aL.length) f.blocks.length (gJ f.blocks f.args.toNat)).length:=by
  unfold BH;rw[uS];rfl
 rw[WL] at zS
 clear WL
 generalize gJ f.blocks f.args.toNat=RR at zS ⊢
 have LM:∀ k,k<f.blocks.length->(eB f.af.length (f.af.length+f.aL.length) f.blocks.length RR)[k]? =some (Cn (bN f.af.length (f.af.length+f.aL.length) RR k)):=fun k hk=>yJ hk
 have hCl:=uS f.af.length (f.af.length+f.aL.length) f.blocks.length RR
 generalize eB f.af.length (f.af.length+f.aL.length) f.blocks.length RR=CP at zS LM hCl
 refine dh ?_;refine cl zP ?_;refine J1 ?_
 refine ab (aC (ag ?_))
 refine J2 ?_;refine cS ?_
 refine ab (bp rfl (fun h=>(by cases h)) fun _=>b8 (ag ?_))
 refine dh ?_;refine cl zS ?_;refine fJ ?_;refine er ?_;refine dh ?_;refine cl wL ?_;refine fJ ?_
 refine ab (aC (aq ?_))
 refine J3 ?_
 refine ab (bM (fun s=>(∃ N,Ghost prog s ⟨ax [],fun _=>none,N⟩)/\(List.range f.blocks.length).all (oB f RR)=true) (cH (α:=Nat×Nat) (fun q=>⟨ax [(1,.pt (aB f)),(4,.sl (CP.flatMap nF) CP.length),(5,bC L),(6,I q.1)],fun _=>none,q.2⟩)
  (fun q=>q.1<=f.blocks.length/\(List.range q.1).all (oB f RR)=true) (fun q=>f.blocks.length - q.1) (0,1) (fN eH) ⟨Nat.zero_le _,rfl⟩ ?_) ?_)
 .rintro⟨k,N⟩ ⟨hk,bj⟩
  dsimp only at hk bj ⊢
  refine jy ?_
  refine ab ⟨_,rfl,fun h=>?_,fun h=>?_⟩
  .have aj:k<f.blocks.length:=by simpa using h
   have hx:f.blocks[k]? =some f.blocks[k]:=List.getElem?_eq_getElem aj
   have b7:f.blocks[k]∈f.blocks:=List.getElem_mem _
   have AB:=LM k aj
   have oL:oB f RR k=false->(if(List.range f.blocks.length).all (oB f RR)=true then(0:Int) else 81)=81:=fun hq=>by rw[ng aj hq];rfl
   have wO:oB f RR k=((bN f.af.length (f.af.length+f.aL.length) RR k).any||((List.range f.blocks[k].ins.length).all (x6 f RR k f.blocks[k].ins (bN f.af.length (f.af.length+f.aL.length) RR k))&&qg (eC f.af.length f.blocks[k].ins (bN f.af.length (f.af.length+f.aL.length) RR k)) (bR f.blocks[k].fin))):=by
    unfold oB;simp only[getD_some hx]
   have cW:(bN f.af.length (f.af.length+f.aL.length) RR k).is.length=f.af.length+f.aL.length:=GU
   generalize f.blocks[k]=x at hx b7 wO
   generalize bN f.af.length (f.af.length+f.aL.length) RR k=c at AB wO cW
   obtain⟨ca,ci⟩:=c
   refine aC (ag ?_)
   cases ca with
   |true=>
    refine iX ?_;refine zU ?_;refine aG ?_
    refine ab (bp rfl (fun h=>n5 (tw ?_)) fun h=>(by cases h))
    refine bd ?_
    exact ab (aK (k+1,N) (fN eH) ⟨by dsimp only;omega,j9 bj wO⟩ (by dsimp only;omega))
   |false=>
   refine iX ?_;refine zU ?_;refine aG ?_
   refine ab (bp rfl (fun h=>(by cases h)) fun h=>b8 (aq ?_))
   rw[show({ any:=false,is:=ci }:Cert).any=false from rfl,Bool.false_or] at wO
   refine iX ?_;refine zU ?_;refine Co ?_;refine cE ?_;refine xZ ?_
   refine ab (aJ (aE (l:=[(1,.pt (aB f)),(4,.sl (CP.flatMap nF) CP.length),(5,bC L),(6,I k),(7,.rp N 0)]) (ml:=[(N,.cells (bP ⟨false,ci⟩) 158)]) eH ⟨up_same _ _ _,trivial⟩) (ag ?_))
   refine aG ?_;refine J0 ?_;refine l5 ?_;refine aG ?_;refine fJ ?_
   have cR:=(hF.ok.blk x b7).len
   have alx:=hF.ins x b7
   have xO:=hF.Gb k x hx
   have hAg:=WK k aj
   have aly:=GV (fun b hb t ht=>((hF.ok.blk b hb).to t ht).1) f.blocks.length k
   have ahz:=hF.ok.blk
   have fm:∀ y q,oC f RR k y q=oC f RR k y q:=fun _ _=>rfl
   refine ab (aC (aq ?_))
   refine J3 ?_
   refine ab (bM (fun s=>∃ N',Ghost prog s ⟨ax [(1,.pt (aB f)),(4,.sl (CP.flatMap nF) CP.length),(5,bC L),(6,I k),(7,.rp N 0)],aX [(N,.cells (bP (eC f.af.length x.ins ⟨false,ci⟩)) 158)],N'⟩/\N<N'/\(List.range x.ins.length).all (x6 f RR k x.ins ⟨false,ci⟩)=true) (cH (α:=Nat×Nat) (fun j=>⟨ax [(1,.pt (aB f)),(4,.sl (CP.flatMap nF) CP.length),(5,bC L),(6,I k),(7,.rp N 0),(8,gq x.ins),(9,I j.1)],aX [(N,.cells (bP (eC f.af.length (x.ins.take j.1) ⟨false,ci⟩)) 158)],j.2⟩)
    (fun j=>j.1<=x.ins.length/\N<j.2/\(List.range j.1).all (x6 f RR k x.ins ⟨false,ci⟩)=true) (fun j=>x.ins.length - j.1) (0,N+1) (aE eH ⟨up_same _ _ _,trivial⟩) ⟨Nat.zero_le _,Nat.lt_succ_self _,rfl⟩ ?_) ?_)
   .rintro⟨j,M⟩ ⟨hj,hM,s6⟩
    dsimp only at hj hM s6 ⊢
    have aN:∀ y,x.ins[j]? =some y->eC f.af.length (x.ins.take (j+1)) ⟨false,ci⟩=tX f.af.length (eC f.af.length (x.ins.take j) ⟨false,ci⟩) y:=fun y hy=>mf hy
    have gf:j=x.ins.length->eC f.af.length (x.ins.take j) ⟨false,ci⟩=eC f.af.length x.ins ⟨false,ci⟩:=fun e=>by rw[e,List.take_length]
    have wN:=(AP f.af.length (x.ins.take j) ⟨false,ci⟩).trans cW
    have cQ:x6 f RR k x.ins ⟨false,ci⟩ j=(opsV f.af.length (eC f.af.length (x.ins.take j) ⟨false,ci⟩) (x.ins.getD j dx)&&zV f RR k (x.ins.getD j dx)):=rfl
    generalize eC f.af.length (x.ins.take j) ⟨false,ci⟩=d at aN gf wN cQ
    refine kB ?_;refine bB ?_
    refine ab ⟨_,rfl,fun h=>?_,fun h=>?_⟩
    .have cD:j<x.ins.length:=by simpa using h
     have hy:x.ins[j]? =some x.ins[j]:=List.getElem?_eq_getElem cD
     have aN:=aN _ hy
     rw[getD_some hy] at cQ
     have uz:=alx _ (List.getElem_mem cD)
     have rF:=xO j _ hy
     have qQ:x6 f RR k x.ins ⟨false,ci⟩ j=false->(if(List.range f.blocks.length).all (oB f RR)=true then(0:Int) else 81)=81:=fun hq=>oL (by rw[wO,ng cD hq];rfl)
     generalize x.ins[j]=y at hy aN cQ uz rF
     refine aq ?_
     refine iX ?_;refine oZ ?_;refine eF ?_;refine cE ?_;refine Fa ?_
     refine ab (aJ (nh (i:=M) (l:=[(1,.pt (aB f)),(4,.sl (CP.flatMap nF) CP.length),(5,bC L),(6,I k),(7,.rp N 0),(8,gq x.ins),(9,I j),(10,.pt (a7 y))]) (ml:=[(N,.cells (bP d) 158)]) (up_same _ _ _) ⟨rfl,rfl,rfl,rfl,D2 oG,rfl,rfl,mG,trivial⟩ ⟨wV oG (au oG (au oG (up_same _ _ _))) rfl,trivial⟩) (dV (fun s=>Ghost prog s ⟨ax [(1,.pt (aB f)),(4,.sl (CP.flatMap nF) CP.length),(5,bC L),(6,I k),(7,.rp N 0),(8,gq x.ins),(9,I j),(10,.pt (a7 y))],aX [(N,.cells (bP d) 158)],M+1⟩/\opsV f.af.length d y=true) ?_ ?_))
     .have bQ:=(ahz x b7).ins y (List.mem_of_getElem? hy)
      clear aN rF
      obtain⟨yo,yt,ya,yb,yn,yl⟩:=y
      have nZ:opsV f.af.length d ⟨yo,yt,ya,yb,yn,yl⟩=((yo !=17||d.is.getD ((f.af.length:Int)+yn).toNat false)&&qg d (bS ⟨yo,yt,ya,yb,yn,yl⟩)):=rfl
      have vW:=vW (x:=⟨yo,yt,ya,yb,yn,yl⟩) (fun ho=>by have:=bQ.ar ho;dsimp only at this ⊢;omega)
      have q0:=q0 (c:=d) (rs:=bS ⟨yo,yt,ya,yb,yn,yl⟩) (fun r hr=>by
       obtain⟨i,h1,h2⟩:=uz.2.r r hr
       exact⟨i,by omega,h2⟩)
      generalize qg d (bS ⟨yo,yt,ya,yb,yn,yl⟩)=v at q0 nZ
      generalize bS ⟨yo,yt,ya,yb,yn,yl⟩=rs at q0 vW
      have Vo:opsV f.af.length d ⟨yo,yt,ya,yb,yn,yl⟩=false->I 81=I (if(List.range f.blocks.length).all (oB f RR)=true then 0 else 81):=fun hq=>by rw[qQ (by rw[cQ,hq];rfl)]
      refine dP Ze ?_
      by_cases gG:yo=17
      .obtain⟨i,hi,e⟩:=uz.2.s gG
       dsimp only at e
       subst e
       have WM:d.is[f.af.length+i]? =some d.is[f.af.length+i]:=List.getElem?_eq_getElem oG
       have gC:(yo==17)=true:=by simp[gG]
       rw[show((f.af.length:Int)+(i:Int)).toNat=f.af.length+i by omega,getD_some WM,show(yo !=17)=false by simp[gG],Bool.false_or] at nZ
       generalize d.is[f.af.length+i]=b at WM nZ
       have hqn:({ op:=yo,to:=yt,a:=ya,b:=yb,n:=(i:Int),args:=yl }:a8).n=(i:Int):=rfl
       refine aG ?_;refine kF ?_;refine J2 ?_;refine zC ?_;refine zD ?_;refine fe ?_;refine bt ?_
       refine bl rfl rfl (R8 rfl rfl oG) (fun hc=>⟨ak,rfl⟩) ?_
       refine zO ?_;refine ej ?_;refine dY ?_
       refine bl rfl rfl (eL rfl (up_same _ _ _) V.h V.h rfl) (fun hc=>⟨ak,(eM V.h V.h (by first|(simp;done)|omega|exact Nat.le_of_ble_eq_true rfl))⟩) ?_
       refine xV ?_;refine gc vW ?_;refine gc q0 ?_;refine ej ?_;refine J9 ?_
       refine bc (by simp[apartT]) (al rfl (fun hp=>ag ?_) fun hp=>aR ⟨aE eH ⟨up_same _ _ _,trivial⟩,by rw[nZ];revert hp;cases b<;>cases v<;>simp⟩)
       refine J3 ?_
       exact ab (aO (aM (cm (aM (cm (aM (ap rfl (Vo (by rw[nZ];revert hp;cases b<;>cases v<;>simp)))))))))
      .have gC:(yo==17)=false:=by simp[gG]
       rw[show(yo !=17)=true by simp[gG],Bool.true_or,Bool.true_and] at nZ
       refine aG ?_;refine kF ?_;refine J2 ?_;refine z fun _ _=>?_;refine z fun _ _=>?_;refine z fun _ _=>?_;refine z fun _ _=>?_;refine z fun _ _=>?_;refine z fun _ _=>?_;refine z fun _ _=>?_;refine z fun _ _=>?_;refine z fun _ _=>?_;refine z fun _ _=>?_;refine z fun _ _=>?_;refine dL ?_
       refine bl rfl rfl (eL rfl (up_same _ _ _) V.h V.h rfl) (fun hc=>⟨ak,(eM V.h V.h (by first|(simp;done)|omega|exact Nat.le_of_ble_eq_true rfl))⟩) ?_
       refine xV ?_;refine gc vW ?_;refine gc q0 ?_;refine ej ?_;refine gl ?_
       refine bc (by simp[apartT]) (al rfl (fun hp=>ag ?_) fun hp=>aR ⟨aE eH ⟨up_same _ _ _,trivial⟩,by rw[nZ];revert hp;cases v<;>simp⟩)
       refine J3 ?_
       exact ab (aO (aM (cm (aM (cm (aM (ap rfl (Vo (by rw[nZ];revert hp;cases v<;>simp)))))))))
     rintro s ⟨hg,Vp⟩
     rw[Vp,Bool.true_and] at cQ
     clear Vp
     have pX:=pX (x:=y)
     have hp:Ck d.is.length (cO y):=by
      rcases uz.1.w with e|⟨i,h1,h2⟩
      .exact .inl e
      .exact .inr ⟨i,by omega,h2⟩
     have kw:=jd (c:=d) oG hp
     have wJ:=(DQ d (cO y)).trans wN
     have kv:y.op=18->PCall prog 124 [.agg (bP (iD d (cO y))),I ((f.af.length:Int)+y.n)] (.agg (bP (iD (iD d (cO y)) ((f.af.length:Int)+y.n)))):=fun e=>jd oG (by
      obtain⟨i,h1,h2⟩:=uz.1.s e
      exact .inr ⟨f.af.length+i,by omega,by rw[h2];omega⟩)
     have gm:y.op=18->0<=y.n/\y.n<=2000:=fun e=>by
      obtain⟨i,h1,h2⟩:=uz.1.s e
      omega
     have qT:=aN
     unfold tX at qT
     generalize iD d (cO y)=d1 at kw wJ kv qT
     generalize cO y=w at pX kw
     have jd:=kw
     refine⟨_,hg,qj Zf ?_⟩
     clear hg
     refine Kt ?_;refine eF ?_;refine cl pX ?_;refine cl jd ?_;refine xZ ?_
     refine bc (by simp[apartT]) (aJ (aE (l:=[(1,.pt (aB f)),(4,.sl (CP.flatMap nF) CP.length),(5,bC L),(6,I k),(7,.rp N 0),(8,gq x.ins),(9,I j),(10,.pt (a7 y))]) (ml:=[(N,.cells (bP d1) 158)]) eH ⟨up_same _ _ _,trivial⟩) (dV (fun s=>Ghost prog s ⟨ax [(1,.pt (aB f)),(4,.sl (CP.flatMap nF) CP.length),(5,bC L),(6,I k),(7,.rp N 0),(8,gq x.ins),(9,I j),(10,.pt (a7 y))],aX [(N,.cells (bP (eC f.af.length (x.ins.take (j+1)) ⟨false,ci⟩)) 158)],M+1⟩) (ag ?_) ?_))
     .refine aG ?_;refine J8 ?_
      refine ab (al rfl (fun dO=>kp ?_) fun dO=>aR ?_)
      .have dO:y.op=18:=by simpa using dO
       rw[if_pos dO] at qT
       have jd:=kv dO
       have lk:=gm dO
       refine Kt ?_;refine dG ?_;refine aG ?_;refine Ah ?_;refine cl jd ?_;refine xZ ?_
       refine ab (aE eH ⟨?_,trivial⟩)
       rw[qT];exact up_same _ _ _
      .have dO:¬ y.op=18:=by simpa using dO
       rw[if_neg dO] at qT
       refine aE eH ⟨?_,trivial⟩
       rw[qT];exact up_same _ _ _
     intro s hg
     refine⟨_,hg,aq ?_⟩
     clear hg qT kw kv wJ jd pX hp gm aN
     refine J3 ?_
     generalize WN:eC f.af.length (x.ins.take (j+1)) ⟨false,ci⟩=dj
     refine ab (cH (α:=Nat×Nat) (fun q=>⟨ax [(1,.pt (aB f)),(4,.sl (CP.flatMap nF) CP.length),(5,bC L),(6,I k),(7,.rp N 0),(8,gq x.ins),(9,I j),(10,.pt (a7 y)),(11,I q.1)],aX [(N,.cells (bP dj) 158)],q.2⟩)
      (fun q=>q.1<=y.args.length/\N<q.2/\(q.1=0\/y.op=19)/\(List.range q.1).all (oC f RR k y)=true) (fun q=>y.args.length - q.1) (0,M+1) (aE eH ⟨up_same _ _ _,trivial⟩) ⟨Nat.zero_le _,by dsimp only;omega,.inl rfl,rfl⟩ ?_)
     rintro⟨q,M2⟩ ⟨hq,Gp,alz,Dl⟩
     dsimp only at hq Gp alz Dl ⊢
     by_cases eK:y.op=19
     .have gC:(y.op==19)=true:=by simp[eK]
      have WO:bE y=true:=by simp[bE,eK]
      have rF:=(rF WO).1
      have Gq:zV f RR k y=(List.range y.args.length).all (oC f RR k y):=by unfold zV;rw[WO];rfl
      have CM:∀ p∈bf f.blocks f.blocks.length k,∃ pn:Nat,p=pn/\pn<f.blocks.length:=fun p hp=>by
       obtain⟨b,h1,h2,_⟩:=DB.1 hp
       exact⟨b,h1,h2⟩
      have fm:∀ q,oC f RR k y q=((bN f.af.length (f.af.length+f.aL.length) RR ((bf f.blocks f.blocks.length k).getD q 0).toNat).any||(lR (f.blocks.getD ((bf f.blocks f.blocks.length k).getD q 0).toNat iV).fin k (eC f.af.length (f.blocks.getD ((bf f.blocks f.blocks.length k).getD q 0).toNat iV).ins (bN f.af.length (f.af.length+f.aL.length) RR ((bf f.blocks f.blocks.length k).getD q 0).toNat))).is.getD (y.args.getD q 0).toNat false):=fun q=>rfl
      have alA:=uz.2.p eK
      have K8:=DC hw f.blocks.length k
      generalize bf f.blocks f.blocks.length k=A at rF CM fm hAg K8
      by_cases AA:q<y.args.length
      .have sI:decide ((q:Int)<(y.args.length:Int))=true:=decide_eq_true oG
       refine aG ?_;refine kF ?_;refine jU ?_;refine fe ?_;refine Cp ?_;refine cI ?_
       refine ab ⟨_,rfl,fun h=>?_,fun h=>(by cases h)⟩
       have fm:=fm q
       have WQ:A[q]? =some A[q]:=List.getElem?_eq_getElem oG
       obtain⟨pn,e1,CO⟩:=CM _ (List.getElem_mem (h:=by omega):A[q]∈A)
       rw[e1] at WQ
       clear e1
       rw[getD_some WQ,Int.toNat_natCast] at fm
       have yC:=LM pn CO
       have Ku:(bN f.af.length (f.af.length+f.aL.length) RR pn).is.length=f.af.length+f.aL.length:=GU
       generalize bN f.af.length (f.af.length+f.aL.length) RR pn=cp at yC fm Ku
       obtain⟨pa,pi⟩:=cp
       refine ws ?_;refine fc ?_;refine gM ?_;refine J3 ?_
       refine ab (aC (ag ?_))
       cases pa with
       |true=>
        refine iX ?_;refine zU ?_;refine aG ?_
        refine ab (bp rfl (fun h=>n5 (tw ?_)) fun h=>(by cases h))
        refine bd ?_
        exact ab (aK (q+1,M2) (aE eH ⟨up_same _ _ _,trivial⟩) ⟨by dsimp only;omega,Gp,.inr eK,j9 Dl fm⟩ (by dsimp only;omega))
       |false=>
       refine iX ?_;refine zU ?_;refine aG ?_
       refine ab (bp rfl (fun h=>(by cases h)) fun h=>b8 (qj Zg ?_))
       have sT:f.blocks[pn]? =some f.blocks[pn]:=List.getElem?_eq_getElem CO
       have oH:f.blocks[pn]∈f.blocks:=List.getElem_mem _
       rw[getD_some sT] at fm
       generalize f.blocks[pn]=xp at sT oH fm
       have tY:=tY (c:=⟨false,pi⟩) sT Ku oG (fun y hy=>(hF.ins xp oH y hy).1) (by have:=(hF.ok.blk xp oH).len;omega)
       have lY:=(AP f.af.length xp.ins ⟨false,pi⟩).trans Ku
       generalize eC f.af.length xp.ins ⟨false,pi⟩=pc at tY fm lY
       have vX:=vX (c:=pc) (to:=(k:Int)) sT (by have:=hw xp oH;omega) oG (by
        rcases hF.wr xp oH with e|⟨r,h1,h2⟩
        .exact .inl e
        .exact .inr ⟨r,by omega,h2⟩)
       have yp:=(MY xp.fin k pc).trans lY
       generalize lR xp.fin k pc=zQ at vX fm yp
       have WR:y.args[q]? =some y.args[q]:=List.getElem?_eq_getElem AA
       obtain⟨ri,K9,e2⟩:=alA _ (List.getElem_mem AA)
       rw[e2] at WR
       clear e2
       have WS:zQ.is[ri]? =some zQ.is[ri]:=List.getElem?_eq_getElem oG
       rw[getD_some WR,Int.toNat_natCast,getD_some WS] at fm
       generalize zQ.is[ri]=bz at WS fm
       have fm:oC f RR k y q=bz:=fm
       refine dh ?_;refine gL ?_;refine dh ?_;refine J0 ?_;refine iX ?_;refine zU ?_;refine Co ?_;refine cl tY ?_;refine cl vX ?_;refine cE ?_;refine xZ ?_
       refine bc (by simp[apartT]) (aJ (nh (i:=M2) (l:=[(1,.pt (aB f)),(4,.sl (CP.flatMap nF) CP.length),(5,bC L),(6,I k),(7,.rp N 0),(8,gq x.ins),(9,I j),(10,.pt (a7 y)),(11,I q),(13,.pt (bP zQ))]) (ml:=[(N,.cells (bP dj) 158)]) (up_same _ _ _) ⟨rfl,rfl,rfl,rfl,D2 oG,rfl,rfl,rfl,rfl,mG,trivial⟩ ⟨wV oG (au oG (au oG (up_same _ _ _))) rfl,trivial⟩) (dP Zh ?_))
       refine aG ?_;refine aG ?_;refine gM ?_;refine o4 ?_;refine cS ?_
       refine bc (by simp[apartT]) (al rfl (fun hp=>ag ?_) fun hp=>cx ?_)
       .have LN:bz=false:=by simpa using hp
        refine J3 ?_
        refine ab (aO (cm (cm (aM (cm (aM (ap (d:=I 81) rfl ?_)))))))
        rw[qQ (by rw[cQ,Gq,ng AA (by rw[fm,LN])])]
       .have LN:bz=true:=by simpa using hp
        refine bd ?_
        exact ab (aK (q+1,M2+1) (aE eH ⟨up_same _ _ _,trivial⟩) ⟨by dsimp only;omega,by dsimp only;omega,.inr eK,j9 Dl (by rw[fm,LN])⟩ (by dsimp only;omega))
      .have sI:decide ((q:Int)<(y.args.length:Int))=false:=decide_eq_false oG
       have:q=y.args.length:=by omega
       subst this
       rw[<- Gq] at Dl
       refine aG ?_;refine kF ?_;refine jU ?_;refine fe ?_;refine Cp ?_;refine cI ?_
       refine ab ⟨_,rfl,fun h=>(by cases h),fun h=>?_⟩
       show AOps _ _ _ _ _ _ _ _ _
       refine bd ?_
       refine ab (aK (j+1,M2) (aE eH ⟨?_,trivial⟩) ⟨by dsimp only;omega,Gp,j9 s6 (by rw[cQ,Dl])⟩ (by dsimp only;omega))
       dsimp only;rw[WN];exact up_same _ _ _
     .have gC:(y.op==19)=false:=by simp[eK]
      have Gq:zV f RR k y=true:=by unfold zV bE;simp[eK]
      refine aG ?_;refine kF ?_;refine J2 ?_;refine z fun _ _=>?_;refine z fun _ _=>?_;refine z fun _ _=>?_;refine z fun _ _=>?_;refine z fun _ _=>?_;refine gl ?_
      refine ab ⟨_,rfl,fun h=>(by cases h),fun h=>?_⟩
      show AOps _ _ _ _ _ _ _ _ _
      refine bd ?_
      refine ab (aK (j+1,M2) (aE eH ⟨?_,trivial⟩) ⟨by dsimp only;omega,Gp,j9 s6 (by rw[cQ,Gq])⟩ (by dsimp only;omega))
      dsimp only;rw[WN];exact up_same _ _ _
    .have aZ:¬ j<x.ins.length:=by simpa using h
     have:j=x.ins.length:=by omega
     subst this
     rw[<- gf rfl]
     exact⟨M,aE eH ⟨up_same _ _ _,trivial⟩,hM,s6⟩
   .rintro s ⟨M,hg,hM,mb⟩
    rw[mb,Bool.true_and] at wO
    have wN:=(AP f.af.length x.ins ⟨false,ci⟩).trans cW
    refine⟨_,hg,dP Zi ?_⟩
    generalize eC f.af.length x.ins ⟨false,ci⟩=d at wO wN
    have FA:=FA (x:=x.fin) (fun h5 ho=>by have:=(hF.ok.akD x b7 h5).ar ho;omega) (fun h1=>by have:=(hF.ok.ends x b7).fin.a2 (by rcases h1 with e|e<;>simp[aH,e]);omega)
    have q0:=q0 (c:=d) (rs:=bR x.fin) (fun r hr=>by
     obtain⟨i,h1,h2⟩:=hF.rd x b7 r hr
     exact⟨i,by omega,h2⟩)
    rw[<- wO] at q0
    generalize bR x.fin=rs at FA q0
    refine Kt ?_;refine aG ?_;refine J0 ?_;refine l5 ?_;refine J6 ?_;refine gS ?_;refine cl FA ?_;refine cl q0 ?_;refine cS ?_
    refine bc (by simp[apartT]) (al rfl (fun hp=>?_) fun hp=>cx ?_)
    .refine ws ?_;refine J3 ?_
     refine ab (aO (cm (aM (ap (d:=I 81) rfl ?_))))
     rw[oL (by simpa using hp)]
    .refine bd ?_
     exact ab (aK (k+1,M) (fN eH) ⟨by dsimp only;omega,j9 bj (by simpa using hp)⟩ (by dsimp only;omega))
  .have aZ:¬ k<f.blocks.length:=by simpa using h
   have:k=f.blocks.length:=by omega
   subst this
   exact⟨⟨N,fN (l:=[]) trivial⟩,bj⟩
 .rintro s ⟨⟨N,hg⟩,bj⟩
  refine⟨_,hg,ag ?_⟩
  refine J3 ?_
  refine ab (ap (d:=I 0) rfl ?_)
  rw[bj];rfl
end Go.Proofs.Tryz.K
end
namespace Go.Argus
open Go Go.Abs
section
variable{beh:Nat->List Int}{w:Int}{S:Nat->Prop}(hS:∀ x,S x->∀ c∈beh x,c≠w->S c.toNat)
include hS
theorem PZ:∀ (k:Nat) (s:List Bool×List Int) (b:Nat),S b->(∀ i,s.1.getD i false=true->S i)->∀ i,(dF beh w k s b).1.getD i false=true->S i
 |0,s,b,_,h,i,hi=>h i hi
 |k+1,s,b,hb,h,i,hi=>by
  rw[td] at hi
  have h1:∀ i,(s.1.set b true).getD i false=true->S i:=fun i hi=>by
   rw[List.getD_eq_getElem?_getD,List.getElem?_set] at hi
   by_cases e:b=i
   .subst e;exact hb
   .rw[if_neg e, <- List.getD_eq_getElem?_getD] at hi
    exact h i hi
  have key:∀ l:List Int,(∀ c∈l,c∈beh b)->∀ t:List Bool×List Int,(∀ i,t.1.getD i false=true->S i)->∀ i,(df beh w k t l).1.getD i false=true->S i:=fun l=>by
   induction l with
   |nil=>exact fun _ t ht i hi=>ht i hi
   |cons c l ih=>
    intro hl t ht i hi
    unfold df at hi
    rw[List.foldl_cons] at hi
    refine ih (fun c hc=>hl c (by simp[hc])) _ ?_ i hi
    split
    .rename_i hc
     exact PZ k t c.toNat (hS b hb c (hl c (by simp)) hc.2) ht
    .exact ht
  exact key (beh b) (fun _ h=>h) _ h1 i hi
theorem Nf{n:Nat}(h0:S 0):∀ i,(bu beh n w).getD i false=true->S i:=fun i hi=>by
 have hz:∀ i,(List.replicate n false).getD i false=false:=fun i=>by
  rw[List.getD_eq_getElem?_getD,List.getElem?_replicate];split<;>rfl
 unfold bu at hi
 split at hi
 .rw[hz] at hi;cases hi
 .exact PZ hS n _ 0 h0 (fun i hi=>by rw[hz] at hi;cases hi) i hi
end
theorem My{beh:Nat->List Int}{n:Nat}{w:Int}(hb:∀ b,∀ c∈beh b,0<=c/\c.toNat<n)(hn:0<n)(hw:w≠0):(bu beh n w).getD 0 false=true/\∀ x,(bu beh n w).getD x false=true->∀ c∈beh x,c≠w->(bu beh n w).getD c.toNat false=true:=by
 obtain⟨_,h2,h3⟩:=Ct hb hn w
 unfold bu
 rw[if_neg hw]
 exact⟨h2,h3⟩
theorem aal{beh:Nat->List Int}{n:Nat}{w:Int}(hb:∀ b,∀ c∈beh b,0<=c/\c.toNat<n)(hn:0<n){o:List Bool}(hl:o.length=n)(h0:o.getD 0 false=true)
 (hc:∀ x,o.getD x false=true->∀ c∈beh x,c≠w->o.getD c.toNat false=true) (hs:∀ i,o.getD i false=true->(bu beh n w).getD i false=true):o=bu beh n w:=by
 have hr:=te hb hn w
 apply List.ext_getElem?
 intro i
 by_cases hi:i<n
 .have h1:o[i]? =some o[i]:=List.getElem?_eq_getElem oG
  have h2:(bu beh n w)[i]? =some (bu beh n w)[i]:=List.getElem?_eq_getElem oG
  have e1:o.getD i false=o[i]:=by simp[List.getD_eq_getElem?_getD,h1]
  have e2:(bu beh n w).getD i false=(bu beh n w)[i]:=by simp[List.getD_eq_getElem?_getD,h2]
  rw[h1,h2]
  congr 1
  rw[Bool.eq_iff_iff, <- e1, <- e2]
  exact⟨hs i,Nf (S:=fun i=>o.getD i false=true) hc h0 i⟩
 .rw[List.getElem?_eq_none oG,List.getElem?_eq_none oG]
def dB(beh:Nat->List Int)(n a b:Nat):Bool:=(bu beh n (-1)).getD a false&&((bu beh n (-1)).getD b false&& !(bu beh n a).getD b false)
def ET(beh:Nat->List Int)(n b:Nat)(p:Int)(a:Nat):Int:=if a≠b/\dB beh n a b=true/\(p<0\/dB beh n p.toNat a=true) then a else p
def gg(beh:Nat->List Int)(n b k:Nat):Int:=(List.range k).foldl (ET beh n b) (-1)
def zp(beh:Nat->List Int)(n:Nat):List Int:=(List.range n).map fun b=>gg beh n b n
theorem GW(beh:Nat->List Int)(n b k:Nat):gg beh n b (k+1)=ET beh n b (gg beh n b k) k:=by
 unfold gg
 rw[List.range_succ,List.foldl_append];rfl
theorem aaI{beh:Nat->List Int}{n:Nat}(hb:∀ b,∀ c∈beh b,0<=c/\c.toNat<n)(hn:0<n){a x:Nat}:(bu beh n a).getD x false=true↔Av (kW beh) a x:=by
 by_cases h0:a=0
 .subst h0
  constructor
  .intro h
   unfold bu at h
   rw[if_pos (show((0:Nat):Int)=0 from rfl),List.getD_eq_getElem?_getD,List.getElem?_replicate] at h
   split at h<;>cases h
  .intro h
   exfalso
   induction h with
   |zero h=>exact h rfl
   |step _ _ _ ih=>exact ih
 .constructor
  .refine Nf (S:=fun i=>Av (kW beh) a i) (fun x hx c hc aA=>?_) (.zero (fun e=>h0 e.symm)) x
   have:=hb x c hc
   have e:((c.toNat:Nat):Int)=c:=Int.toNat_of_nonneg this.1
   refine .step hx ?_ fun e'=>aA (by rw[<- e,e'])
   show((c.toNat:Nat):Int)∈beh x
   rw[e];exact hc
  .intro h
   obtain⟨h1,h2⟩:=My (w:=(a:Int)) hb hn oG
   induction h with
   |zero _=>exact h1
   |step _ e aA ih=>
    have:=h2 _ ih _ e oG
    rwa[Int.toNat_natCast] at this
theorem bm.chain{N:Nat->Nat}{a c x:Nat}(h1:bm N a x)(h2:bm N c x):bm N a c\/bm N c a:=by
 induction h1 with
 |refl=>exact .inr h2
 |@up x h1 ih=>
  rcases h2.inv with e|h2
  .subst e;exact .inl (.up h1)
  .exact ih h2
section
variable{beh ahd:Nat->List Int}{n:Nat}(h:tW beh ahd n)
include h
theorem su{a b:Nat}:dB beh n a b=true↔cg beh n a/\cg beh n b/\zZ beh a b:=by
 unfold dB
 rw[Bool.and_eq_true,Bool.and_eq_true,Bool.not_eq_true']
 show cg beh n a/\cg beh n b/\_↔_
 refine and_congr_right fun _=>and_congr_right fun _=>?_
 unfold zZ
 rw[<- aaI h.to h.pos,Bool.not_eq_true]
theorem acm{a b:Nat}:dB beh n a b=Cg beh ahd n a b:=by
 rw[Bool.eq_iff_iff,su h,abz h]
theorem HG{b:Nat}(rb:cg beh n b):∀ k,(gg beh n b k= -1/\∀ a,a<k->a≠b->¬ dB beh n a b=true)\/
 ∃ q:Nat,gg beh n b k=q/\q≠b/\dB beh n q b=true/\∀ a,a<k->a≠b->dB beh n a b=true->bm (tc beh ahd n) a q
 |0=>.inl ⟨rfl,fun a ha=>absurd ha (Nat.not_lt_zero _)⟩
 |k+1=>by
  rw[GW]
  unfold ET
  rcases HG rb k with⟨e,hn⟩|⟨q,e,hq,dq,hn⟩
  .rw[e]
   by_cases hc:k≠b/\dB beh n k b=true
   .rw[if_pos ⟨hc.1,hc.2,.inl oG⟩]
    refine .inr ⟨k,rfl,hc.1,hc.2,fun a ha dD da=>?_⟩
    by_cases ek:a=k
    .subst ek;exact .refl _
    .exact absurd da (hn a oG dD)
   .rw[if_neg fun hx=>hc ⟨hx.1,hx.2.1⟩]
    refine .inl ⟨rfl,fun a ha dD da=>?_⟩
    by_cases ek:a=k
    .subst ek;exact hc ⟨dD,da⟩
    .exact hn a oG dD da
  .rw[e,Int.toNat_natCast]
   have rq:=((su h).1 dq).1
   by_cases hc:k≠b/\dB beh n k b=true/\((q:Int)<0\/dB beh n q k=true)
   .rw[if_pos hc]
    refine .inr ⟨k,rfl,hc.1,hc.2.1,fun a ha dD da=>?_⟩
    by_cases ek:a=k
    .subst ek;exact .refl _
    .have dk:=(su h).1 (hc.2.2.resolve_left oG)
     exact(hn a oG dD da).trans ((r9 h dk.2.1).2 dk.2.2)
   .rw[if_neg hc]
    refine .inr ⟨q,rfl,hq,dq,fun a ha dD da=>?_⟩
    by_cases ek:a=k
    .subst ek
     have d1:=(su h).1 da
     have d2:=(su h).1 dq
     rcases((r9 h rb).2 d1.2.2).chain ((r9 h rb).2 d2.2.2) with g|g
     .exact g
     .exact absurd ⟨dD,da,.inr ((su h).2 ⟨rq,d1.1,(r9 h d1.1).1 g⟩)⟩ hc
    .exact hn a oG dD da
theorem aaJ(b:Nat):gg beh n b n=cv (fZ beh ahd n) b:=by
 by_cases rb:cg beh n b
 .by_cases hz:b=0
  .subst hz
   rw[Hv h]
   rcases HG h rb n with⟨e,_⟩|⟨q,_,hq,dq,_⟩
   .exact e
   .exact absurd (.zero fun e=>hq e.symm) ((su h).1 dq).2.2
  .obtain⟨p1,p2,p3⟩:=Ii h rb hz
   have aA:tc beh ahd n b≠b:=fun e=>by rw[e] at p3;omega
   have hd:dB beh n (tc beh ahd n b) b=true:=(su h).2 ⟨p2,rb,(r9 h rb).1 (.up (.refl _))⟩
   rw[p1]
   rcases HG h rb n with⟨_,hn⟩|⟨q,e,hq,dq,hn⟩
   .exact absurd hd (hn _ (xv h p2) aA)
   .rw[e]
    have a1:=hn _ (xv h p2) aA hd
    have d:=(su h).1 dq
    rcases((r9 h rb).2 d.2.2).inv with e'|a2
    .exact absurd e' hq
    .have l1:=((El h).low d.1 a1).2
     have l2:=((El h).low p2 a2).2
     have:q=tc beh ahd n b:=by
      rcases l1 with l1|l1
      .exact l1.symm
      .rcases l2 with l2|l2
       .exact l2
       .omega
     rw[this]
 .rw[aby h rb]
  have:∀ k,gg beh n b k= -1:=fun k=>by
   induction k with
   |zero=>rfl
   |succ k ih=>
    rw[GW,ih]
    unfold ET
    rw[if_neg fun hx=>rb ((su h).1 hx.2.1).2.1]
  exact this n
theorem abr:zp beh n=fZ beh ahd n:=by
 refine List.ext_getElem? fun i=>?_
 unfold zp
 have hl:=Me h
 rcases Nat.lt_or_ge i n with g|g
 .rw[List.getElem?_map,List.getElem?_range g,List.getElem?_eq_getElem (show i<(fZ beh ahd n).length by omega)]
  show some (gg beh n i n)=_
  rw[aaJ h i]
  unfold cv
  rw[Int.toNat_natCast,List.getD_eq_getElem?_getD,List.getElem?_eq_getElem (show i<(fZ beh ahd n).length by omega)];rfl
 .rw[List.getElem?_eq_none (by simpa using g),List.getElem?_eq_none oG]
end
end Go.Argus
section
open Go Go.Abs Go.Proofs Go.Argus
namespace Go.Proofs.Tryz.K
set_option maxRecDepth 10000
set_option maxHeartbeats 1000000 in
theorem alB{f:az}(hF:vC f)(hw:∀ b∈f.blocks,b.fin.aD.length<=9){w:Int}:OCall prog 75 [.agg (aB f),I w] ((bu (aU f) f.blocks.length w).map B) f.blocks.length 4:=by
 have hb:=beh_in hF.ok
 change ∀ b,∀ t∈aU f b,_ at hb
 have Dj:=hF.ok.nS
 have l0:=hF.ok.pos
 have aP:∀ a∈[D.agg (aB f),I w],Tr a:=.cons (.agg (gp f)) (.cons (.s _) .nil)
 refine tf mixed Vq (by rw[alC];rfl) aP (.map fun _=>.s _) ?_
 rw[alD,alE]
 refine aq ?_
 refine ia ?_;refine c7 ?_
 refine ab (aJ (bg [(0,aB f,26)] eH (l:=[(1,I w),(2,.pt (aB f))]) eH) (aq ?_))
 have cM:((f.blocks.length:Nat):Int).toNat=f.blocks.length:=Int.toNat_natCast _
 refine dG ?_;refine uo ?_;refine bJ ?_
 refine ab (aJ (aE (l:=[(1,I w),(2,.pt (aB f)),(5,.rs 1 0 f.blocks.length)]) (ml:=[(1,.cells ((List.replicate f.blocks.length false).map B) 4)]) ⟨rfl,rfl,congrArg (fun k=>D.rs 1 0 k) cM,trivial⟩ ⟨?_,trivial⟩) (aC (ag ?_)))
 .exact congrArg (fun c=>some (Row.cells c 4)) ((congrArg (fun k=>replD k [B false]) cM).trans (tq _ false))
 by_cases Gr:w=0
 .have gC:(w==0)=true:=by simp[Gr]
  have hr:bu (aU f) f.blocks.length w=List.replicate f.blocks.length false:=by unfold bu;rw[if_pos Gr]
  rw[hr]
  refine J0 ?_;refine kF ?_
  refine ab (bp rfl (fun _=>?_) fun h=>(by cases h))
  refine aC (ag ?_)
  refine bT ?_;refine bJ ?_
  exact ab (dn (ap rfl ⟨1,rfl,rfl⟩))
 have gC:(w==0)=false:=by simp[Gr]
 refine J0 ?_;refine kF ?_
 refine ab (bp rfl (fun h=>(by cases h)) fun _=>b8 (aq ?_))
 clear gC
 obtain⟨x9,WT⟩:=My hb l0 Gr
 have ji:=te hb l0 w
 have uj:=fun(o:List Bool)=> @aal (aU f) f.blocks.length w hb l0 o
 generalize bu (aU f) f.blocks.length w=RR at x9 WT ji uj ⊢
 have hlz:((List.replicate f.blocks.length false).map B).length=f.blocks.length:=by simp
 refine bT ?_;refine eI ?_;refine uq ?_
 refine ab (aJ (aE (l:=[(1,I w),(2,.pt (aB f)),(5,.rs 1 0 f.blocks.length)]) (ml:=[(1,.cells (((List.replicate f.blocks.length false).set 0 true).map B) 4)]) eH ⟨by rw[List.map_set];rfl,trivial⟩) (aq ?_))
 refine J1 ?_
 refine ab (bM (fun s=>Ghost prog s ⟨ax [(5,.rs 1 0 f.blocks.length)],aX [(1,.cells (RR.map B) 4)],2⟩) (w0 (α:=List Bool×Bool) (fun s=>⟨ax [(1,I w),(2,.pt (aB f)),(5,.rs 1 0 f.blocks.length),(6,B s.2)],aX [(1,.cells (s.1.map B) 4)],2⟩)
  (fun s=>s.1.length=f.blocks.length/\s.1.getD 0 false=true/\(∀ i,s.1.getD i false=true->RR.getD i false=true)/\(s.2=false->∀ x,s.1.getD x false=true->∀ c∈aU f x,c≠w->s.1.getD c.toNat false=true)) (fun s=>2*s.1.count false+if s.2=true then 1 else 0) ((List.replicate f.blocks.length false).set 0 true,true)
  (aE eH eH) ⟨by simp,?_,fun i hi=>?_,fun h=>by cases h⟩ ?_) ?_)
 .rw[wT (by simp;omega),if_pos rfl]
 .dsimp only at hi
  rw[wT (by simp;omega)] at hi
  by_cases e:i=0
  .rw[e];exact x9
  .rw[if_neg e,List.getD_eq_getElem?_getD,List.getElem?_replicate] at hi
   split at hi<;>cases hi
 .rintro⟨o0,t0⟩ ⟨oU,Dm,wi,AD⟩
  dsimp only at oU Dm wi AD ⊢
  refine J2 ?_
  refine ab ⟨_,rfl,fun ht=>?_,fun ht=>?_⟩
  .refine ws ?_;refine J1 ?_
   refine ab (aq ?_)
   refine J3 ?_
   refine ab (cH (α:=Nat×List Bool×Bool) (fun s=>⟨ax [(1,I w),(2,.pt (aB f)),(5,.rs 1 0 f.blocks.length),(6,B s.2.2),(7,I s.1)],aX [(1,.cells (s.2.1.map B) 4)],2⟩)
    (fun s=>s.1<=f.blocks.length/\s.2.1.length=f.blocks.length/\s.2.1.getD 0 false=true/\(∀ i,s.2.1.getD i false=true->RR.getD i false=true)/\(s.2.2=false->s.2.1=o0/\∀ x,x<s.1->o0.getD x false=true->∀ c∈aU f x,c≠w->o0.getD c.toNat false=true)/\(s.2.2=true->s.2.1.count false<o0.count false)) (fun s=>f.blocks.length - s.1) (0,o0,false)
    (aE eH eH) ⟨Nat.zero_le _,oU,Dm,wi,fun _=>⟨rfl,fun x hx=>by dsimp only at hx;omega⟩,fun h=>by cases h⟩ ?_)
   rintro⟨k,o,t⟩ ⟨hk,hl,h0,hs,hf,rN⟩
   dsimp only at hk hl h0 hs hf rN ⊢
   have tZ:(o.map B).length=f.blocks.length:=by simp[hl]
   refine jy ?_
   refine ab ⟨_,rfl,fun h=>?_,fun h=>?_⟩
   .have aj:k<f.blocks.length:=by simpa using h
    have hx:f.blocks[k]? =some f.blocks[k]:=List.getElem?_eq_getElem aj
    have b7:f.blocks[k]∈f.blocks:=List.getElem_mem _
    have m9:=m9 hx (by have:=hw _ b7;omega)
    rw[(hF.ed _ b7).2, <- NK hx] at m9
    have jD:=hb k
    have Vr:=WT k
    have bQ:o[k]? =some (o.getD k false):=by
     rw[List.getElem?_eq_getElem (show k<o.length by omega),getD_some (List.getElem?_eq_getElem (show k<o.length by omega))]
    have ud:∀ b,o.getD k false=b->o.getD k false=b:=fun _ h=>h
    have j7:(aU f k).length<=100000:=by
     rw[NK hx]
     have:=wQ f.blocks[k].fin
     have:=hw _ b7
     omega
    have kd:=gn (f:=B) bQ
    refine aC (ag ?_)
    generalize alF:aU f k=l at m9 jD Vr j7
    cases rO:o.getD k false with
    |false=>
     rw[rO] at kd
     refine cL ?_;refine eI ?_;refine p9 ?_;refine cS ?_
     refine ab (bp rfl (fun h=>n5 (tw ?_)) fun h=>(by cases h))
     refine bd ?_
     refine ab (aK (k+1,o,t) (aE eH eH) ⟨by dsimp only;omega,hl,h0,hs,fun h=>⟨(hf h).1,fun x hx n1=>?_⟩,rN⟩ (by dsimp only;omega))
     dsimp only at hx
     by_cases e:x=k
     .subst e
      rw[<- (hf h).1,rO] at n1
      cases n1
     .exact(hf h).2 x oG n1
    |true=>
    rw[rO] at kd
    refine cL ?_;refine eI ?_;refine p9 ?_;refine cS ?_
    refine ab (bp rfl (fun h=>(by cases h)) fun h=>b8 (ag ?_))
    refine dh ?_;refine J0 ?_;refine cl m9 ?_;refine fJ ?_
    refine ab (aq ?_)
    refine J3 ?_
    refine ab (cH (α:=Nat×List Bool×Bool) (fun s=>⟨ax [(1,I w),(2,.pt (aB f)),(5,.rs 1 0 f.blocks.length),(6,B s.2.2),(7,I k),(8,aw l),(9,I s.1)],aX [(1,.cells (s.2.1.map B) 4)],2⟩)
     (fun s=>s.1<=l.length/\s.2.1.length=f.blocks.length/\s.2.1.getD 0 false=true/\s.2.1.getD k false=true/\(∀ i,s.2.1.getD i false=true->RR.getD i false=true)/\(s.2.2=false->s.2.1=o0/\(∀ x,x<k->o0.getD x false=true->∀ c∈aU f x,c≠w->o0.getD c.toNat false=true)/\∀ c∈l.take s.1,c≠w->o0.getD c.toNat false=true)/\(s.2.2=true->s.2.1.count false<o0.count false)) (fun s=>l.length - s.1) (0,o,t)
     (aE eH eH) ⟨Nat.zero_le _,hl,h0,rO,hs,fun h=>⟨(hf h).1,(hf h).2,fun c hc=>by simp at hc⟩,rN⟩ ?_)
    clear hl h0 hs hf rN tZ bQ ud kd rO
    rintro⟨j,o,t⟩ ⟨hj,hl,h0,rO,hs,hf,rN⟩
    dsimp only at hj hl h0 rO hs hf rN ⊢
    have tZ:(o.map B).length=f.blocks.length:=by simp[hl]
    refine kB ?_;refine bB ?_
    refine ab ⟨_,rfl,fun h=>?_,fun h=>?_⟩
    .have cD:j<l.length:=by simpa using h
     have hy:l[j]? =some l[j]:=List.getElem?_eq_getElem cD
     have ux:=jD _ (List.getElem_mem cD)
     have wK:=Vr (hs k rO) _ (List.getElem_mem cD)
     have uk:l.take (j+1)=l.take j++[l[j]]:=by rw[List.take_add_one,hy];rfl
     generalize l[j]=c at hy ux wK uk
     obtain⟨i,rfl⟩:=Int.eq_ofNat_of_zero_le ux.1
     rw[Int.toNat_natCast] at ux wK
     have uc:o[i]? =some (o.getD i false):=by
      rw[List.getElem?_eq_getElem (show i<o.length by omega),getD_some (List.getElem?_eq_getElem (show i<o.length by omega))]
     have kd:=gn (f:=B) uc
     refine ws ?_
     by_cases Gs:(i:Int)=w
     .have iH:((i:Int) !=w)=false:=by simp[Gs]
      refine fc ?_;refine J0 ?_;refine jl ?_;refine J2 ?_;refine z fun _ _=>?_;refine z fun _ _=>?_;refine z fun _ _=>?_;refine z fun _ _=>?_;refine z fun _ _=>?_;refine z fun _ _=>?_;refine z fun _ _=>?_;refine z fun _ _=>?_;refine gl ?_
      refine ab (al rfl (fun h=>(by cases h)) fun h=>cx ?_)
      refine bd ?_
      refine ab (aK (j+1,o,t) (aE eH eH) ⟨by dsimp only;omega,hl,h0,rO,hs,fun h=>⟨(hf h).1,(hf h).2.1,fun c hc aA=>?_⟩,rN⟩ (by dsimp only;omega))
      dsimp only at hc
      rw[uk] at hc
      rcases List.mem_append.1 hc with hc|hc
      .exact(hf h).2.2 c hc aA
      .rw[List.mem_singleton.1 hc] at aA;exact absurd Gs aA
     .have iH:((i:Int) !=w)=true:=by simp[Gs]
      cases nW:o.getD i false with
      |true=>
       rw[nW] at kd
       refine fc ?_;refine J0 ?_;refine jl ?_;refine J2 ?_;refine B2 ?_;refine jz ?_
       refine bl rfl rfl (nq rfl rfl rfl V.h V.h) (fun hc=>⟨ak,⟨V.h,by omega⟩⟩) ?_
       refine bl rfl rfl (ic rfl rfl kd V.h) (fun hc=>⟨ak,(ie V.h V.h kd)⟩) ?_
       refine ej ?_;refine cI ?_
       refine ab (al rfl (fun h=>(by cases h)) fun h=>cx ?_)
       refine bd ?_
       refine ab (aK (j+1,o,t) (aE eH eH) ⟨by dsimp only;omega,hl,h0,rO,hs,fun h=>⟨(hf h).1,(hf h).2.1,fun c hc aA=>?_⟩,rN⟩ (by dsimp only;omega))
       dsimp only at hc
       rw[uk] at hc
       rcases List.mem_append.1 hc with hc|hc
       .exact(hf h).2.2 c hc aA
       .rw[List.mem_singleton.1 hc,Int.toNat_natCast, <- (hf h).1];exact nW
      |false=>
       rw[nW] at kd
       have p6:=abm (show i<o.length by omega) nW
       have pS:∀ q,(o.set i true).getD q false=if q=i then true else o.getD q false:=fun q=>wT oG
       refine fc ?_;refine J0 ?_;refine jl ?_;refine J2 ?_;refine B2 ?_;refine jz ?_
       refine bl rfl rfl (nq rfl rfl rfl V.h V.h) (fun hc=>⟨ak,⟨V.h,by omega⟩⟩) ?_
       refine bl rfl rfl (ic rfl rfl kd V.h) (fun hc=>⟨ak,(ie V.h V.h kd)⟩) ?_
       refine ej ?_;refine cI ?_
       refine ab (al rfl (fun h=>ag ?_) fun h=>(by cases h))
       refine bT ?_;refine fc ?_;refine eI ?_;refine uq ?_
       refine ab (eO ?_)
       refine J1 ?_
       refine ab ?_
       refine bd ?_
       refine ab (aK (j+1,o.set i true,true) (aE eH ⟨by rw[List.map_set];rfl,trivial⟩) ⟨by dsimp only;omega,by dsimp only;rw[List.length_set];exact hl,?_,?_,fun q hq=>?_,fun h=>(by cases h),fun _=>?_⟩ (by dsimp only;omega))
       .dsimp only;rw[pS];split
        .rfl
        .exact h0
       .dsimp only;rw[pS];split
        .rfl
        .exact rO
       .dsimp only at hq
        rw[pS] at hq
        split at hq
        .rename_i e;rw[e];exact wK Gs
        .exact hs q hq
       .dsimp only
        cases t with
        |false=>rw[(hf rfl).1] at p6 ⊢;exact p6
        |true=>exact Nat.lt_trans p6 (rN rfl)
    .have aZ:¬ j<l.length:=by simpa using h
     rw[List.take_of_length_le oG] at hf
     show AOps _ _ _ _ _ _ _ _ _
     refine bd ?_
     refine ab (aK (k+1,o,t) (aE eH eH) ⟨by dsimp only;omega,hl,h0,hs,fun h=>⟨(hf h).1,fun x hx n1=>?_⟩,rN⟩ (by dsimp only;omega))
     dsimp only at hx
     by_cases e:x=k
     .rw[e,alF];exact(hf h).2.2
     .exact(hf h).2.1 x oG n1
   .have aZ:¬ k<f.blocks.length:=by simpa using h
    refine aK (o,t) (aE eH eH) ⟨hl,h0,hs,fun h x n1=>?_⟩ ?_
    .dsimp only at h n1 ⊢
     have hh:=hf h
     rw[hh.1] at n1 ⊢
     by_cases qh:x<k
     .exact hh.2 x qh n1
     .exfalso
      rw[List.getD_eq_getElem?_getD,List.getElem?_eq_none oG] at n1
      cases n1
    .dsimp only
     rw[if_pos ht]
     cases t with
     |false=>rw[(hf rfl).1];simp
     |true=>have:=rN rfl;simp;omega
  .have ho:=uj o0 oU Dm (AD ht) wi
   rw[<- ho]
   exact aE eH eH
 .intro s hg
  refine⟨_,hg,ag ?_⟩
  refine bT ?_;refine bJ ?_
  exact ab (ap rfl ⟨1,rfl,rfl⟩)
theorem lp{f:az}(hF:vC f)(hw:∀ b∈f.blocks,b.fin.aD.length<=9){w:Int}:PCall prog 75 [.agg (aB f),I w] (cA (bu (aU f) f.blocks.length w)):=by
 have hb:=beh_in hF.ok
 change ∀ b,∀ t∈aU f b,_ at hb
 have hl:=te (w:=w) hb hF.ok.pos
 have h:=(alB hF hw (w:=w)).ac' (fun d hd=>by obtain⟨x,_,rfl⟩:=List.mem_map.1 hd;rfl) (.sl fun d hd=>by
  obtain⟨x,_,rfl⟩:=List.mem_map.1 (List.mem_of_mem_take hd)
  exact .s _)
 rw[c4,List.take_of_length_le (by simp[hl])] at h
 unfold cA
 rw[hl];exact h
end Go.Proofs.Tryz.K
namespace Go.Argus
def Ev(f:az)(l:List Int):Int:=if eh f=0 then(if l.all (fun x=>decide (0<=x)&&decide (x<(f.blocks.length:Int)))=true then 0 else 1) else eh f
def zW(f:az)(a b:Int):D:=if eh f=0 then(if 0<=a/\a<f.blocks.length/\0<=b/\b<f.blocks.length then .tup [B ((bu (aU f) f.blocks.length (-1)).getD a.toNat false&&((bu (aU f) f.blocks.length (-1)).getD b.toNat false&& !((bu (aU f) f.blocks.length a).getD b.toNat false))),I 0] else .tup [B false,I 1]) else .tup [B false,I (eh f)]
theorem AI{f:az}(h:eh f=0):jI f=true:=by
 unfold eh at h
 split at h
 .assumption
 .cases h
theorem yY{l:List Bool}{i:Nat}(h:i<l.length):l[i]? =some (l.getD i false):=by
 rw[List.getElem?_eq_getElem h,getD_some (List.getElem?_eq_getElem h)]
end Go.Argus
namespace Go.Proofs.Tryz.K
set_option maxRecDepth 10000
theorem LO{a b:List Int}:PCall prog 64 [aw a,aw b] (B (decide (a=b))):=by
 have aP:∀ x∈[aw a,aw b],Tr x:=.cons (cN _) (.cons (cN _) .nil)
 refine pw Kv.he aP fun gW=>?_
 have hlen:=(gW (aw a) (by simp)).sl.1
 unfold maxLen at hlen
 refine aY mixed Kv (by rw[alG];rfl) aP (Tr.s _) ?_
 rw[alH,alI]
 refine ws ?_;refine J1 ?_
 refine ab (aC (ag ?_))
 refine tN ?_;refine tN ?_;refine jC ?_
 refine ab (bp rfl (fun h=>?_) fun h=>b8 (aC (aq ?_)))
 .refine aC (ag ?_)
  refine J1 ?_
  refine ab (dn (ap (d:=B false) rfl ?_))
  have aA:a≠b:=fun e=>by subst e;simp at h
  rw[decide_eq_false aA]
 have j7:a.length=b.length:=by
  have:¬ ((a.length:Int)≠(b.length:Int)):=by simpa using h
  omega
 clear h
 refine J3 ?_
 refine ab (bM (fun s=>Ghost prog s ⟨ax [],fun _=>none,0⟩/\a=b) (cH (α:=Nat) (fun k=>⟨ax [(0,aw a),(1,aw b),(5,I k)],fun _=>none,0⟩)
  (fun k=>k<=a.length/\∀ j,j<k->a[j]? =b[j]?) (fun k=>a.length - k) 0 (ao eH) ⟨by omega,fun j hj=>by omega⟩ ?_) ?_)
 .rintro k ⟨hk,hinv⟩
  refine kB ?_;refine bB ?_
  refine ab ⟨_,rfl,fun h=>?_,fun h=>?_⟩
  .have aj:k<a.length:=by simpa using h
   have hx:a[k]? =some a[k]:=List.getElem?_eq_getElem aj
   have hy:b[k]? =some b[k]:=List.getElem?_eq_getElem oG
   generalize a[k]=x at hx
   generalize b[k]=y at hy
   refine dP aam ?_
   refine fc ?_;refine fc ?_;refine jC ?_
   refine bc (by simp[apartT]) (al rfl (fun hp=>?_) fun hp=>?_)
   .refine ws ?_;refine J1 ?_
    refine ab (aO (cm (aM (ap (d:=B false) rfl ?_))))
    have aA:a≠b:=fun e=>by
     subst e;rw[hx] at hy;cases hy;simp at hp
    rw[decide_eq_false aA]
   .refine cx ?_
    refine bd ?_
    refine ab (aK (k+1) (ao eH) ⟨by omega,fun j hj=>?_⟩ oG)
    by_cases e:j=k
    .subst e;rw[hx,hy];congr 1;simpa using hp
    .exact hinv j oG
  .have aZ:¬ k<a.length:=by simpa using h
   refine⟨fN (l:=[]) trivial,List.ext_getElem? fun j=>?_⟩
   by_cases hj:j<k
   .exact hinv j hj
   .rw[List.getElem?_eq_none oG,List.getElem?_eq_none oG]
 .rintro s ⟨hg,dD⟩
  refine⟨_,hg,ag ?_⟩
  refine J1 ?_
  refine ab (ap (d:=B true) rfl ?_)
  rw[decide_eq_true dD]
theorem AE{a b:List Int}:PCall prog 22 [aw a,aw b] (B (decide (a=b))):=by
 have LO:=LO (a:=a) (b:=b)
 refine aY mixed Vs (by rw[alJ];rfl) (.cons (cN _) (.cons (cN _) .nil)) (Tr.s _) ?_
 rw[alK,alL]
 refine ws ?_;refine J1 ?_;refine er ?_;refine j4 ?_;refine j4 ?_;refine cl LO ?_;refine J1 ?_
 exact ab (ap rfl rfl)
theorem uP{f:az}{l:List Int}(hs:tF f)(hw:∀ b∈f.blocks,b.fin.aD.length<=9)(hl:l.length<=1000):PCall prog 88 [.agg (aB f),aw l] (I (Ev f l)):=by
 have s9:=s9 hs hw
 refine aY mixed Vt (by rw[alM];rfl) (.cons (.agg (gp f)) (.cons (cN _) .nil)) (Tr.s _) ?_
 rw[alN,alO]
 unfold Ev
 refine aq ?_
 refine ia ?_;refine J3 ?_
 refine ab (aJ (bg [(0,aB f,26)] eH (l:=[(1,aw l),(2,.pt (aB f))]) eH) (ag ?_))
 generalize hce:eh f=ce at s9 ⊢
 refine dh ?_;refine cl s9 ?_;refine J3 ?_
 refine ab (aC (ag ?_))
 by_cases h0:ce=0
 .have iH:(ce !=0)=false:=by simp[h0]
  refine J0 ?_;refine jl ?_
  refine ab (bp rfl (fun h=>(by cases h)) fun _=>b8 (aC (aq ?_)))
  rw[if_pos h0]
  have Dj:f.blocks.length<=1200:=(xq (AI (hce.trans h0))).nS
  refine J3 ?_
  refine ab (bM (fun s=>Ghost prog s ⟨ax [],fun _=>none,1⟩/\l.all (fun x=>decide (0<=x)&&decide (x<(f.blocks.length:Int)))=true) (cH (α:=Nat) (fun k=>⟨ax [(1,aw l),(2,.pt (aB f)),(6,I k)],fun _=>none,1⟩)
   (fun k=>k<=l.length/\∀ (j:Nat) y,j<k->l[j]? =some y->(decide (0<=y)&&decide (y<(f.blocks.length:Int)))=true) (fun k=>l.length - k) 0 (ao eH) ⟨by omega,fun j y hj=>by omega⟩ ?_) ?_)
  .rintro k ⟨hk,hinv⟩
   refine kB ?_;refine bB ?_
   refine ab ⟨_,rfl,fun h=>?_,fun h=>?_⟩
   .have aj:k<l.length:=by simpa using h
    have hx:l[k]? =some l[k]:=List.getElem?_eq_getElem aj
    generalize l[k]=x at hx
    refine dP aan ?_
    refine fc ?_;refine bB ?_;refine J2 ?_;refine jz ?_;refine fe ?_;refine Ve ?_;refine J9 ?_
    refine bc (by simp[apartT]) (al rfl (fun hp=>?_) fun hp=>?_)
    .refine ws ?_;refine J3 ?_
     refine ab (aO (cm (aM (ap (d:=I 1) rfl ?_))))
     have:l.all (fun x=>decide (0<=x)&&decide (x<(f.blocks.length:Int)))=false:=List.all_eq_false.2 ⟨x,List.mem_of_getElem? hx,by revert hp;simp;grind⟩
     rw[this];rfl
    .refine cx ?_
     refine bd ?_
     refine ab (aK (k+1) (ao eH) ⟨by omega,fun j y hj hy=>?_⟩ oG)
     by_cases e:j=k
     .subst e;rw[hx] at hy;cases hy;revert hp;simp
     .exact hinv j y oG hy
   .have aZ:¬ k<l.length:=by simpa using h
    exact⟨fN (l:=[]) trivial,List.all_eq_true.2 fun y hy=>by
     obtain⟨j,hj⟩:=List.getElem?_of_mem hy
     exact hinv j y (by have:=(List.getElem?_eq_some_iff.1 hj).1;omega) hj⟩
  .rintro s ⟨hg,rG⟩
   refine⟨_,hg,ag ?_⟩
   refine J3 ?_
   refine ab (ap (d:=I 0) rfl ?_)
   rw[rG];rfl
 .have iH:(ce !=0)=true:=by simp[h0]
  refine J0 ?_;refine jl ?_
  refine ab (bp rfl (fun _=>?_) fun h=>(by cases h))
  refine aC (ag ?_)
  refine iF ?_
  refine ab (dn (ap rfl ?_))
  rw[if_neg h0];rfl
theorem AF{f:az}{a b:Int}(hs:tF f)(hw:∀ b∈f.blocks,b.fin.aD.length<=9):PCall prog 38 [.agg (aB f),I a,I b] (zW f a b):=by
 have uP:=uP (l:=[a,b]) hs hw (by simp)
 have Kw:∀ {m:Mem},m 1=some (.cells [I a,I b] 3)->Sns prog [1] m [.agg (aB f),.rs 1 0 2] [.agg (aB f),aw [a,b]]:=fun hm=>⟨cq (.agg (gp f)),EH hm (by simp) (by rw[c3];rfl) (.cons (.s _) (.cons (.s _) .nil)),trivial⟩
 have alP:Tr (zW f a b):=by
  unfold zW
  repeat' split
  all_goals exact .tup (.cons (.s _) (.cons (.s _) .nil))
 refine aY mixed Vu (by rw[alQ];rfl) (.cons (.agg (gp f)) (.cons (.s _) (.cons (.s _) .nil))) alP ?_
 rw[alR,alS]
 have bk:∀ x:Int,(decide (0<=x)&&decide (x<(f.blocks.length:Int)))=true↔0<=x/\x<f.blocks.length:=fun x=>by simp
 have has:Ev f [a,b]=if eh f=0 then(if 0<=a/\a<f.blocks.length/\0<=b/\b<f.blocks.length then 0 else 1) else eh f:=by
  unfold Ev
  have:([a,b].all (fun x=>decide (0<=x)&&decide (x<(f.blocks.length:Int)))=true)↔(0<=a/\a<f.blocks.length/\0<=b/\b<f.blocks.length):=by
   simp[and_assoc]
  by_cases h:0<=a/\a<f.blocks.length/\0<=b/\b<f.blocks.length
  .rw[if_pos h,if_pos (this.2 h)]
  .rw[if_neg h,if_neg fun e=>h (this.1 e)]
 unfold zW
 refine ws ?_;refine ia ?_;refine J1 ?_;refine J3 ?_
 refine ab (aq ?_)
 by_cases cT:eh f=0
 .rw[if_pos cT]
  rw[if_pos cT] at has
  by_cases dD:0<=a/\a<f.blocks.length/\0<=b/\b<f.blocks.length
  .rw[if_pos dD] at has ⊢
   rw[has] at uP
   refine Ch ?_;refine gL ?_;refine xW ?_
   refine IQ uP rfl (Kw rfl) rfl ak ?_
   refine J3 ?_
   refine ab (aJ (bg [(0,aB f,26)] eH (l:=[(1,I a),(2,I b),(3,.pt (aB f)),(8,I 0)]) eH) (aC (ag ?_)))
   refine J0 ?_;refine jC ?_
   refine ab (bp rfl (fun h=>(by cases h)) fun _=>b8 (ag ?_))
   have hF:=ER (AI cT)
   have Cq:∀ {w:Int},PCall prog 75 [.agg (aB f),I w] (cA (bu (aU f) f.blocks.length w)):=fun {w}=>lp hF hw
   obtain⟨a1,a2,b1,b2⟩:=dD
   obtain⟨an,rfl⟩:=Int.eq_ofNat_of_zero_le a1
   obtain⟨bn,rfl⟩:=Int.eq_ofNat_of_zero_le b1
   have ji:∀ w,(bu (aU f) f.blocks.length w).length=f.blocks.length:=fun w=>te (w:=w) (beh_in hF.ok) hF.ok.pos
   have hx:=yY (l:=bu (aU f) f.blocks.length (-1)) (i:=an) (by rw[ji];omega)
   have hy:=yY (l:=bu (aU f) f.blocks.length (-1)) (i:=bn) (by rw[ji];omega)
   have hz:=yY (l:=bu (aU f) f.blocks.length an) (i:=bn) (by rw[ji];omega)
   rw[Int.toNat_natCast,Int.toNat_natCast]
   have Vv:= @Cq (-1)
   have Vw:= @Cq (an:Int)
   generalize (bu (aU f) f.blocks.length (-1)).getD an false=ra at hx
   generalize (bu (aU f) f.blocks.length (-1)).getD bn false=rb at hy
   generalize (bu (aU f) f.blocks.length an).getD bn false=rab at hz
   generalize bu (aU f) f.blocks.length (-1)=R1 at Vv hx hy
   generalize bu (aU f) f.blocks.length an=R2 at Vw hz
   have lp:=Vv
   cases ra with
   |false=>
    refine dh ?_;refine cl lp ?_;refine gM ?_;refine J2 ?_;refine zX ?_;refine gc lp ?_;refine fB ?_;refine dL ?_;refine zX ?_;refine br ?_;refine z fun _ _=>?_;refine br ?_;refine z fun _ _=>?_;refine z fun _ _=>?_;refine z fun _ _=>?_;refine gZ ?_;refine J3 ?_
    exact ab (kM rfl rfl rfl)
   |true=>
    cases rb with
    |false=>
     refine dh ?_;refine cl lp ?_;refine gM ?_;refine J2 ?_;refine zX ?_;refine gc lp ?_;refine fB ?_;refine dY ?_;refine zX ?_;refine br ?_;refine z fun _ _=>?_;refine br ?_;refine z fun _ _=>?_;refine z fun _ _=>?_;refine z fun _ _=>?_;refine gZ ?_;refine J3 ?_
     exact ab (kM rfl rfl rfl)
    |true=>
     refine dh ?_;refine cl lp ?_;refine gM ?_;refine J2 ?_;refine zX ?_;refine gc lp ?_;refine fB ?_;refine dY ?_;refine zX ?_;refine br ?_
     have lp:=Vw
     refine gc lp ?_;refine fB ?_;refine ej ?_;refine cI ?_;refine J1 ?_;refine J3 ?_
     exact ab (kM rfl rfl rfl)
  .rw[if_neg dD] at has ⊢
   rw[has] at uP
   refine Ch ?_;refine gL ?_;refine xW ?_
   refine IQ uP rfl (Kw rfl) rfl ak ?_
   refine J3 ?_
   refine ab (aJ (bg [(0,aB f,26)] eH (l:=[(1,I a),(2,I b),(3,.pt (aB f)),(8,I 1)]) eH) (aC (ag ?_)))
   refine J0 ?_;refine jC ?_
   refine ab (bp rfl (fun _=>?_) fun h=>(by cases h))
   refine aC (ag ?_)
   refine J0 ?_;refine J1 ?_;refine J3 ?_
   exact ab (dn (kM rfl rfl rfl))
 .rw[if_neg cT]
  rw[if_neg cT] at has
  rw[has] at uP
  generalize eh f=ce at cT uP ⊢
  have iH:(ce !=0)=true:=by simp[cT]
  refine Ch ?_;refine gL ?_;refine xW ?_
  refine IQ uP rfl (Kw rfl) rfl ak ?_
  refine J3 ?_
  refine ab (aJ (bg [(0,aB f,26)] eH (l:=[(1,I a),(2,I b),(3,.pt (aB f)),(8,I ce)]) eH) (aC (ag ?_)))
  refine J0 ?_;refine jl ?_
  refine ab (bp rfl (fun _=>?_) fun h=>(by cases h))
  refine aC (ag ?_)
  refine J0 ?_;refine J1 ?_;refine J3 ?_
  exact ab (dn (kM rfl rfl rfl))
end Go.Proofs.Tryz.K
namespace Go.Abs
theorem Zj{ρ:Nat->Nat}{L:Nat->List D}{k r:Nat}{l:List D}(hl:l≠[]):iw (up ρ k r) (up L k l) (k+1)=iw ρ L k++[.rs r 0 l.length]:=by
 unfold iw
 rw[List.range_succ,List.map_append]
 congr 1
 .refine List.map_congr_left fun i hi=>?_
  have:i≠k:=by have:=List.mem_range.1 hi;omega
  rw[up_ne _ _ this,up_ne _ _ this]
 .show [jc (up ρ k r k) (up L k l k)]=_
  rw[up_same,up_same,nD hl]
theorem dH.push{m m':Mem}{nx nx' j j' k r:Nat}{e et:TypeId}{ρ:Nat->Nat}{L:Nat->List D}{l:List D}(h:dH m nx j k e et ρ L)(hl:l≠[])(hr:nx<=r)(hD:r<nx')(hj:nx<=j')(mT:j'<nx')(hrj:r≠j')
 (av:m' j'=some (.cells (iw ρ L k++[.rs r 0 l.length]) e)) (Jq:m' r=some (.cells l et)) (hk:∀ q,q<nx->q≠j->m' q=m q):dH m' nx' j' (k+1) e et (up ρ k r) (up L k l):=by
 have m7:∀ i,i<k+1->i≠k->L i≠[]->ρ i<nx/\m' (ρ i)=some (.cells (L i) et):=fun i hi aA iJ=>
  ⟨h.lt i oG iJ,(hk _ (h.lt i oG iJ) (h.ne i oG iJ)).trans (h.pT i oG iJ)⟩
 refine⟨by rw[av,Zj hl],mT,fun i hi aA=>?_,fun i hi aA=>?_,fun i hi aA=>?_,fun a b ha hb nV o9 dD=>?_⟩
 .by_cases e:i=k
  .subst e;rw[up_same,up_same];exact Jq
  .rw[up_ne _ _ e] at aA ⊢
   rw[up_ne _ _ e];exact(m7 i hi e aA).2
 .by_cases e:i=k
  .subst e;rw[up_same];exact hD
  .rw[up_ne _ _ e] at aA ⊢
   have:=(m7 i hi e aA).1;omega
 .by_cases e:i=k
  .subst e;rw[up_same];exact hrj
  .rw[up_ne _ _ e] at aA ⊢
   have:=(m7 i hi e aA).1;omega
 .by_cases ea:a=k
  .by_cases eb:b=k
   .omega
   .subst ea
    rw[up_same,up_ne _ _ eb] at dD
    rw[up_ne _ _ eb] at o9
    have:=(m7 b hb eb o9).1;omega
  .by_cases eb:b=k
   .subst eb
    rw[up_same,up_ne _ _ ea] at dD
    rw[up_ne _ _ ea] at nV
    have:=(m7 a ha ea nV).1;omega
   .rw[up_ne _ _ ea] at nV dD
    rw[up_ne _ _ eb] at o9 dD
    exact h.inj a b oG oG nV o9 dD
theorem dH.nil{m:Mem}{nx j:Nat}{e et:TypeId}{ρ:Nat->Nat}{L:Nat->List D}(hm:m j=some (.cells [] e))(hj:j<nx):dH m nx j 0 e et ρ L:=
 ⟨hm,hj,fun _ h=>absurd h (Nat.not_lt_zero _),fun _ h=>absurd h (Nat.not_lt_zero _),fun _ h=>absurd h (Nat.not_lt_zero _),fun _ _ h=>absurd h (Nat.not_lt_zero _)⟩
theorem dH.congr{m:Mem}{nx j n:Nat}{e et:TypeId}{ρ:Nat->Nat}{L L':Nat->List D}(h:dH m nx j n e et ρ L)(hL:∀ i,i<n->L' i=L i):dH m nx j n e et ρ L':=by
 refine⟨?_,h.nU,fun i hi aA=>?_,fun i hi aA=>h.lt i hi (hL i hi▸aA),fun i hi aA=>h.ne i hi (hL i hi▸aA),fun a b ha hb nV o9=>h.inj a b ha hb (hL a ha▸nV) (hL b hb▸o9)⟩
 .rw[h.row]
  congr 2
  exact List.map_congr_left fun i hi=>by rw[hL i (List.mem_range.1 hi)]
 .rw[hL i hi] at aA ⊢
  exact h.pT i hi aA
theorem dH.put{m:Mem}{nx j n i:Nat}{e et:TypeId}{ρ:Nat->Nat}{L:Nat->List D}{l:List D}(h:dH m nx j n e et ρ L)(hi:i<n)(hl:l.length=(L i).length)(aA:L i≠[]):dH (up m (ρ i) (some (.cells l et))) nx j n e et ρ (up L i l):=by
 have oU:l≠[]:=fun e=>by
  subst e
  exact aA (List.eq_nil_of_length_eq_zero hl.symm)
 have nn:∀ k,up L i l k≠[]->L k≠[]:=fun k hk=>by
  by_cases e:k=i
  .subst e;exact aA
  .rwa[up_ne _ _ e] at hk
 refine⟨?_,h.nU,fun k hk hU=>?_,fun k hk hU=>h.lt k hk (nn k hU),fun k hk hU=>h.ne k hk (nn k hU),fun a b ha hb nV o9=>h.inj a b ha hb (nn a nV) (nn b o9)⟩
 .rw[up_ne _ _ (fun e=>h.ne i hi aA e.symm),h.row]
  congr 2
  refine List.map_congr_left fun k hk=>?_
  by_cases e:k=i
  .subst e;rw[up_same,nD oU,nD aA,hl]
  .rw[up_ne _ _ e]
 .by_cases e:k=i
  .subst e;rw[up_same,up_same]
  .rw[up_ne _ _ e,up_ne _ _ fun e'=>e (h.inj k i hk hi (nn k hU) aA e')]
   exact h.pT k hk (nn k hU)
end Go.Abs
namespace Go.Argus
def mA(beh:Nat->List Int)(n b:Nat):List Bool:=(List.range n).map fun a=>dB beh n a b
def zo(beh:Nat->List Int)(n:Nat):D:=.sl ((List.range n).map fun b=>cA (mA beh n b)) n
theorem abn(beh:Nat->List Int)(n:Nat):Tr (zo beh n):=.sl (.map fun _=>.sl (.map fun _=>.s _))
def gI(beh:Nat->List Int)(n a b i:Nat):List D:=(List.range n).map fun c=>B (if c<a\/(c=a/\i<b) then dB beh n c i else false)
theorem abo(beh:Nat->List Int)(n a b i:Nat):(gI beh n a b i).length=n:=by simp[gI]
theorem abp{beh:Nat->List Int}{n a b:Nat}:(gI beh n a b b).set a (B (dB beh n a b))=gI beh n a (b+1) b:=by
 unfold gI
 rw[G1]
 refine List.map_congr_left fun c hc=>?_
 by_cases e:c=a
 .subst e
  rw[up_same,if_pos (.inr ⟨rfl,Nat.lt_succ_self _⟩)]
 .rw[up_ne _ _ e]
  congr 2
  simp[e]
theorem acj{beh:Nat->List Int}{n a b i:Nat}(h:i≠b):gI beh n a (b+1) i=gI beh n a b i:=by
 unfold gI
 refine List.map_congr_left fun c hc=>?_
 have:i<b+1↔i<b:=by omega
 simp only[this]
theorem ack{beh:Nat->List Int}{n a b:Nat}:up (gI beh n a b) b ((gI beh n a b b).set a (B (dB beh n a b)))=gI beh n a (b+1):=by
 funext i
 by_cases e:i=b
 .subst e;rw[up_same,abp]
 .rw[up_ne _ _ e,acj e]
theorem aao{beh:Nat->List Int}{n a i:Nat}(h:i<n):gI beh n (a+1) 0 i=gI beh n a n i:=by
 unfold gI
 refine List.map_congr_left fun c hc=>?_
 have:(c<a+1\/(c=a+1/\i<0))↔(c<a\/(c=a/\i<n)):=by omega
 simp only[this]
theorem aap{beh:Nat->List Int}{n i:Nat}:gI beh n 0 0 i=(List.replicate n false).map B:=by
 unfold gI
 rw[List.map_replicate]
 have:∀ c,(c<0\/(c=0/\i<0))↔False:=fun c=>by simp
 simp only[this,if_false]
 rw[List.map_const',List.length_range]
theorem abq{beh:Nat->List Int}{n i:Nat}:gI beh n n 0 i=(mA beh n i).map B:=by
 unfold gI mA
 rw[List.map_map]
 refine List.map_congr_left fun c hc=>?_
 rw[if_pos (.inl (List.mem_range.1 hc))];rfl
def tH(f:az):D:=if eh f=0 then .tup [aw (fZ (aU f) (lc f) f.blocks.length),I 0] else .tup [.z,I (eh f)]
theorem Oz(f:az):Tr (tH f):=by
 unfold tH
 split
 .exact .tup (.cons (cN _) (.cons (.s _) .nil))
 .exact .tup (.cons I9 (.cons (.s _) .nil))
theorem aaq{beh:Nat->List Int}{n b:Nat}(h:b<n):((List.range n).map fun b=>mA beh n b)[b]? =some (mA beh n b):=by simp[h]
theorem Yp{beh:Nat->List Int}{n b a:Nat}(h:a<n):(mA beh n b)[a]? =some (dB beh n a b):=by simp[mA,h]
theorem aar(beh:Nat->List Int)(n:Nat):zo beh n=.sl (((List.range n).map fun b=>mA beh n b).map cA) ((List.range n).map fun b=>mA beh n b).length:=by
 unfold zo
 rw[List.map_map,List.length_map,List.length_range];rfl
theorem Zl(beh:Nat->List Int)(n k:Nat):((List.range k).map fun b=>gg beh n b n).length=k:=by simp
theorem abt(f:az)(a b:Int):zW f a b=qY f a b:=by
 unfold zW qY
 split
 .rename_i cT
  split
  .rename_i h
   have:=acm (Fv (xq (AI cT))) (a:=a.toNat) (b:=b.toNat)
   unfold dB at this
   rw[Int.toNat_of_nonneg h.1] at this
   rw[this]
  .rfl
 .rfl
theorem Zm{f:az}(h:pU f=true):∀ b∈f.blocks,b.fin.aD.length<=9:=fun b hb=>by
 unfold pU at h
 rw[Bool.and_eq_true,Bool.and_eq_true] at h
 have:=List.all_eq_true.1 h.2.2 b hb
 rw[Bool.and_eq_true,Bool.not_eq_true'] at this
 have:=this.1
 unfold qE at this
 simp only[Bool.or_eq_false_iff,decide_eq_false_iff_not] at this
 omega
theorem Zn(f:az):(∃ e,tH f=.tup [.z,I e])\/∃ l e,tH f=.tup [aw l,I e]:=by
 unfold tH
 split
 .exact .inr ⟨_,_,rfl⟩
 .exact .inl ⟨_,rfl⟩
theorem aas(f:az)(a b:Int):∃ x e,qY f a b=.tup [B x,I e]:=by
 unfold qY
 split
 .split
  .exact⟨_,_,rfl⟩
  .exact⟨_,_,rfl⟩
 .exact⟨_,_,rfl⟩
end Go.Argus
namespace Go.Proofs.Tryz.K
set_option maxRecDepth 10000
theorem Dn{f:az}(hF:vC f)(hw:∀ b∈f.blocks,b.fin.aD.length<=9):PCall prog 91 [.agg (aB f)] (zo (aU f) f.blocks.length):=by
 have hb:=beh_in hF.ok
 change ∀ b,∀ t∈aU f b,_ at hb
 have Dj:=hF.ok.nS
 have l0:=hF.ok.pos
 have Cq:∀ {w:Int},PCall prog 75 [.agg (aB f),I w] (cA (bu (aU f) f.blocks.length w)):=fun {w}=>lp hF hw
 have ji:=fun w=>te (w:=w) hb l0
 refine aY mixed Vx (by rw[alT];rfl) (.cons (.agg (gp f)) .nil) (abn _ _) ?_
 rw[alU,alV]
 refine aq ?_
 refine ia ?_;refine c7 ?_
 refine ab (aJ (bg [(0,aB f,26)] eH (l:=[(1,.pt (aB f))]) eH) (ag ?_))
 have na:∀ a b,dB (aU f) f.blocks.length a b=((bu (aU f) f.blocks.length (-1)).getD a false&&((bu (aU f) f.blocks.length (-1)).getD b false&& !(bu (aU f) f.blocks.length a).getD b false)):=fun _ _=>rfl
 have lp:=Cq (w:= -1)
 have cW:=ji (-1)
 generalize bu (aU f) f.blocks.length (-1)=CN at lp na cW
 refine dh ?_;refine cl lp ?_;refine fJ ?_
 refine ab (aq ?_)
 refine c7 ?_
 refine ab ⟨_,(Ghost.nilrow _ _ _ 4 52 rfl).trans (aE (l:=[(1,.pt (aB f)),(3,cA CN),(4,.rs 1 0 0)]) (ml:=[(1,.cells [] 52)]) eH ⟨up_same _ _ _,trivial⟩),aC (aq ?_)⟩
 refine J3 ?_
 refine ab (bM (fun s=>∃ j m nx ρ,Ghost prog s ⟨ax [(1,.pt (aB f)),(3,cA CN),(4,.rs j 0 f.blocks.length)],m,nx⟩/\dH m nx j f.blocks.length 52 4 ρ fun _=>(List.replicate f.blocks.length false).map B) (cH (α:=Nat×Nat×Mem×Nat)
  (fun s=>⟨ax [(1,.pt (aB f)),(3,cA CN),(4,.rs s.2.1 0 s.1),(5,I s.1)],s.2.2.1,s.2.2.2⟩)
  (fun s=>s.1<=f.blocks.length/\∃ ρ,dH s.2.2.1 s.2.2.2 s.2.1 s.1 52 4 ρ fun _=>(List.replicate f.blocks.length false).map B) (fun s=>f.blocks.length - s.1) (0,1,aX [(1,.cells [] 52)],2)
  (ao eH) ⟨Nat.zero_le _,fun _=>0,.nil rfl (by decide)⟩ ?_) ?_)
 .rintro⟨k,j,m,nx⟩ ⟨hk,ρ,hJ⟩
  dsimp only at hk hJ ⊢
  have av:=hJ.row
  have cD:=hJ.nU
  have pg:(iw ρ (fun _=>(List.replicate f.blocks.length false).map B) k).length=k:=by simp
  have aA:(List.replicate f.blocks.length false).map B≠[]:=fun e=>by
   have:=congrArg List.length e
   rw[List.length_map,List.length_replicate,List.length_nil] at this
   omega
  refine jy ?_
  refine ab ⟨_,rfl,fun h=>?_,fun h=>?_⟩
  .have aj:k<f.blocks.length:=by simpa using h
   have cM:((f.blocks.length:Nat):Int).toNat=f.blocks.length:=Int.toNat_natCast _
   refine eO ?_
   refine bT ?_;refine dG ?_;refine uo ?_;refine fY ?_
   refine vJ (u6 rfl (au oG (au oG av)) rfl V.h V.h (wU (up_same _ _ _) rfl) rfl) ak ⟨V.h,rfl,(by first|omega|exact Nat.le_of_ble_eq_true rfl|(simp;done)|(simp;omega)),(by decide),(by first|rfl|(simp;done)|(simp;omega)),(by unfold maxLen;first|omega|(simp;omega)),(by rw[WU];first|omega|(simp;omega)),(by first|(simp;done)|(simp;omega))⟩ ?_
   refine bJ ?_
   refine ab ?_
   refine bd ?_
   refine ab (aK (k+1,nx+2,up (up (up (up m nx (some (.cells (replD ((f.blocks.length:Nat):Int).toNat [B false]) 4))) (nx+1) (some (.cells [.rs nx 0 ((f.blocks.length:Nat):Int).toNat] 52))) j none) (nx+2) (some (.cells (iw ρ (fun _=>(List.replicate f.blocks.length false).map B) k++[.rs nx 0 ((f.blocks.length:Nat):Int).toNat]) 52)),nx+3)
    (lx eH rfl) ⟨by dsimp only;omega,up ρ k nx,?_⟩ (by dsimp only;omega))
   dsimp only
   rw[cM]
   have:=hJ.push (m':=up (up (up (up m nx (some (.cells (replD f.blocks.length [B false]) 4))) (nx+1) (some (.cells [.rs nx 0 f.blocks.length] 52))) j none) (nx+2) (some (.cells (iw ρ (fun _=>(List.replicate f.blocks.length false).map B) k++[.rs nx 0 f.blocks.length]) 52)))
    (nx':=nx+3) (j':=nx+2) (r:=nx) aA (Nat.le_refl _) oG oG oG oG (by rw[up_same];simp) (by rw[au oG (au oG (au oG (up_same _ _ _))),tq]) (fun q hq qc=>au oG (au qc (au oG (au oG rfl))))
   rwa[show up (fun _:Nat=>(List.replicate f.blocks.length false).map B) k ((List.replicate f.blocks.length false).map B)=fun _=>(List.replicate f.blocks.length false).map B from funext fun i=>by simp[up]] at this
  .have aZ:¬ k<f.blocks.length:=by simpa using h
   have:k=f.blocks.length:=by omega
   subst this
   exact⟨j,m,nx,ρ,ao eH,hJ⟩
 .rintro s ⟨j,m,nx,ρ,hg,hJ⟩
  refine⟨_,hg,aC (aq ?_)⟩
  refine J3 ?_
  have LP:dH m nx j f.blocks.length 52 4 ρ (gI (aU f) f.blocks.length 0 0):=hJ.congr fun i _=>aap
  clear hJ
  refine ab (bM (fun s=>∃ m,Ghost prog s ⟨ax [(4,.rs j 0 f.blocks.length)],m,nx⟩/\dH m nx j f.blocks.length 52 4 ρ (gI (aU f) f.blocks.length f.blocks.length 0)) (cH (α:=Nat×Mem)
   (fun s=>⟨ax [(1,.pt (aB f)),(3,cA CN),(4,.rs j 0 f.blocks.length),(6,I s.1)],s.2,nx⟩)
   (fun s=>s.1<=f.blocks.length/\dH s.2 nx j f.blocks.length 52 4 ρ (gI (aU f) f.blocks.length s.1 0)) (fun s=>f.blocks.length - s.1) (0,m)
   (ao eH) ⟨Nat.zero_le _,LP⟩ ?_) ?_)
  .clear LP
   rintro⟨a,m⟩ ⟨ha,hJ⟩
   dsimp only at ha hJ ⊢
   refine jy ?_
   refine ab ⟨_,rfl,fun h=>?_,fun h=>?_⟩
   .have aj:a<f.blocks.length:=by simpa using h
    refine ws ?_
    have ji:=ji (a:Int)
    have na:=na a
    have lp:=Cq (w:=(a:Int))
    generalize bu (aU f) f.blocks.length (a:Int)=LF at lp na ji
    refine dh ?_;refine J0 ?_;refine cl lp ?_;refine fJ ?_
    refine ab (aq ?_)
    refine J3 ?_
    refine ab (cH (α:=Nat×Mem)
     (fun s=>⟨ax [(1,.pt (aB f)),(3,cA CN),(4,.rs j 0 f.blocks.length),(6,I a),(7,cA LF),(8,I s.1)],s.2,nx⟩)
     (fun s=>s.1<=f.blocks.length/\dH s.2 nx j f.blocks.length 52 4 ρ (gI (aU f) f.blocks.length a s.1)) (fun s=>f.blocks.length - s.1) (0,m)
     (ao eH) ⟨Nat.zero_le _,hJ⟩ ?_)
    clear hJ
    rintro⟨b,m⟩ ⟨At,hJ⟩
    dsimp only at At hJ ⊢
    have av:=hJ.row
    have cD:=hJ.nU
    refine jy ?_
    refine ab ⟨_,rfl,fun h=>?_,fun h=>?_⟩
    .have Cr:b<f.blocks.length:=by simpa using h
     have hlen:=abo (aU f) f.blocks.length a b b
     have aA:gI (aU f) f.blocks.length a b b≠[]:=fun e=>by
      rw[e] at hlen;simp at hlen;omega
     have pg:(iw ρ (gI (aU f) f.blocks.length a b) f.blocks.length).length=f.blocks.length:=by simp
     obtain⟨cs,kd⟩:=DZ (ρ:=ρ) (L:=gI (aU f) f.blocks.length a b) Cr
     rw[nD aA,hlen] at kd
     have fF:=hJ.pT b Cr aA
     have yv:=hJ.lt b Cr aA
     have K6:=hJ.ne b Cr aA
     have oK:=hJ.put (l:=(gI (aU f) f.blocks.length a b b).set a (B (dB (aU f) f.blocks.length a b))) Cr (by simp) aA
     rw[ack] at oK
     have ui:=yY (l:=CN) (i:=a) oG
     have eJ:=yY (l:=CN) (i:=b) oG
     have hlb:=yY (l:=LF) (i:=b) oG
     have na:=na b
     generalize dB (aU f) f.blocks.length a b=dd at na oK
     refine np Zk ?_
     cases gk:CN.getD a false with
     |false=>
      rw[gk] at ui na
      refine cL ?_;refine nT ?_;refine rD ?_;refine J0 ?_;refine fc ?_;refine J2 ?_;refine z fun _ _=>?_;refine z fun _ _=>?_;refine z fun _ _=>?_;refine z fun _ _=>?_;refine dL ?_;refine z fun _ _=>?_;refine z fun _ _=>?_;refine z fun _ _=>?_;refine z fun _ _=>?_;refine z fun _ _=>?_;refine gl ?_;refine vS ?_;refine Ca ?_
      refine bc (by simp[apartT]) ?_
      refine bd ?_
      refine ab (aK (b+1,_) (ao eH) ⟨by dsimp only;omega,?_⟩ (by dsimp only;omega))
      dsimp only
      rw[na] at oK
      exact oK
     |true=>
      rw[gk] at ui na
      cases nN:CN.getD b false with
      |false=>
       rw[nN] at eJ na
       refine cL ?_;refine nT ?_;refine rD ?_;refine J0 ?_;refine fc ?_;refine J2 ?_;refine jz ?_;refine dY ?_;refine z fun _ _=>?_;refine z fun _ _=>?_;refine z fun _ _=>?_;refine z fun _ _=>?_;refine z fun _ _=>?_;refine gl ?_;refine vS ?_;refine Ca ?_
       refine bc (by simp[apartT]) ?_
       refine bd ?_
       refine ab (aK (b+1,_) (ao eH) ⟨by dsimp only;omega,?_⟩ (by dsimp only;omega))
       dsimp only
       rw[na] at oK
       exact oK
      |true=>
       rw[nN] at eJ na
       generalize LF.getD b false=lf at hlb na
       refine cL ?_;refine nT ?_;refine rD ?_;refine J0 ?_;refine fc ?_;refine J2 ?_;refine jz ?_;refine dY ?_;refine jz ?_;refine ej ?_;refine cI ?_;refine vS ?_;refine Ca ?_
       refine bc (by simp[apartT]) ?_
       refine bd ?_
       refine ab (aK (b+1,_) (ao eH) ⟨by dsimp only;omega,?_⟩ (by dsimp only;omega))
       dsimp only
       rw[na] at oK
       exact oK
    .have aZ:¬ b<f.blocks.length:=by simpa using h
     have:b=f.blocks.length:=by omega
     subst this
     show AOps _ _ _ _ _ _ _ _ _
     refine bd ?_
     refine ab (aK (a+1,m) (ao eH) ⟨by dsimp only;omega,hJ.congr fun i hi=>aao hi⟩ (by dsimp only;omega))
   .have aZ:¬ a<f.blocks.length:=by simpa using h
    have:a=f.blocks.length:=by omega
    subst this
    exact⟨m,ao eH,hJ⟩
  .rintro s ⟨m,hg,hJ⟩
   clear LP
   have hJ:dH m nx j f.blocks.length 52 4 ρ (fun i=>(mA (aU f) f.blocks.length i).map B):=hJ.congr fun i _=>abq.symm
   have nX:¬ ∃ i,i<f.blocks.length/\(mA (aU f) f.blocks.length i).map B≠[]/\ρ i=j:=fun⟨i,h1,h2,h3⟩=>hJ.ne i h1 h2 h3
   refine⟨_,hg.trans (DM (l:=[(4,.rs j 0 f.blocks.length)]) (ml:=[]) (fun r=>∃ i,i<f.blocks.length/\(mA (aU f) f.blocks.length i).map B≠[]/\ρ i=r) hJ (fun _=>.map) c4 (fun i h1 h2=>⟨i,h1,h2,rfl⟩) nX ⟨rfl,trivial⟩ (fun x hx=>?_) trivial (fun x hx=>by cases hx)),aq ?_⟩
   .simp at hx;subst hx;exact .rs nX
   refine bT ?_;refine bJ ?_
   refine ab (aJ (bg [(j,_,52)] ⟨if_pos rfl,trivial⟩ (l:=[(2,zo (aU f) f.blocks.length)]) ⟨?_,trivial⟩) (ap rfl rfl))
   show sub (fz0 j _ (prog.cellsOf 52)) (D.rs j 0 f.blocks.length)=_
   rw[mh (by rw[WV];simp)]
   unfold zo cA
   simp
theorem Gt{f:az}(hF:vC f)(hw:∀ b∈f.blocks,b.fin.aD.length<=9):PCall prog 63 [.agg (aB f)] (aw (fZ (aU f) (lc f) f.blocks.length)):=by
 have hg:=Fv hF.ok
 rw[<- abr hg]
 have Dj:=hF.ok.nS
 have l0:=hF.ok.pos
 have Dn:=Dn hF hw
 rw[aar] at Dn
 refine aY mixed Vy (by rw[alW];rfl) (.cons (.agg (gp f)) .nil) (cN _) ?_
 rw[alX,alY]
 have ES:=fun {b:Nat} (h:b<f.blocks.length)=>aaq (beh:=aU f) h
 have Jf:=fun {a b:Nat} (h:a<f.blocks.length)=>Yp (beh:=aU f) (b:=b) h
 have hRl:((List.range f.blocks.length).map fun b=>mA (aU f) f.blocks.length b).length=f.blocks.length:=by simp
 generalize ((List.range f.blocks.length).map fun b=>mA (aU f) f.blocks.length b)=RW at Dn ES hRl
 generalize Gk:mA (aU f) f.blocks.length=RR at ES Jf
 clear Gk
 refine aq ?_
 refine ia ?_;refine c7 ?_
 refine ab (aJ (bg [(0,aB f,26)] eH (l:=[(1,.pt (aB f))]) eH) (ag ?_))
 refine dh ?_;refine cl Dn ?_;refine fJ ?_
 refine ab (aq ?_)
 refine c7 ?_
 refine ab ⟨_,(Ghost.nilrow _ _ _ 4 3 rfl).trans (aE (l:=[(1,.pt (aB f)),(3,.sl (RW.map cA) RW.length),(4,.rs 1 0 0)]) (ml:=[(1,.cells [] 3)]) eH ⟨up_same _ _ _,trivial⟩),aC (aq ?_)⟩
 refine J3 ?_
 refine ab (bM (fun s=>∃ j m nx,Ghost prog s ⟨ax [(4,.rs j 0 f.blocks.length)],m,nx⟩/\m j=some (.cells ((zp (aU f) f.blocks.length).map I) 3)) (cH (α:=Nat×Nat×Mem×Nat)
  (fun s=>⟨ax [(1,.pt (aB f)),(3,.sl (RW.map cA) RW.length),(4,.rs s.2.1 0 s.1),(5,I s.1)],s.2.2.1,s.2.2.2⟩)
  (fun s=>s.1<=f.blocks.length/\s.2.1<s.2.2.2/\s.2.2.1 s.2.1=some (.cells (((List.range s.1).map fun b=>gg (aU f) f.blocks.length b f.blocks.length).map I) 3)) (fun s=>f.blocks.length - s.1) (0,1,aX [(1,.cells [] 3)],2)
  (ao eH) ⟨Nat.zero_le _,by decide,rfl⟩ ?_) ?_)
 .rintro⟨b,j,m,nx⟩ ⟨hb,cD,av⟩
  dsimp only at hb cD av ⊢
  refine jy ?_
  refine ab ⟨_,rfl,fun h=>?_,fun h=>?_⟩
  .have aj:b<f.blocks.length:=by simpa using h
   refine ws ?_;refine J3 ?_
   refine ab (aC (aq ?_))
   refine J3 ?_
   refine ab (bM (fun s=>Ghost prog s ⟨ax [(1,.pt (aB f)),(3,.sl (RW.map cA) RW.length),(4,.rs j 0 b),(5,I b),(6,I (gg (aU f) f.blocks.length b f.blocks.length))],m,nx⟩) (cH (α:=Nat)
    (fun a=>⟨ax [(1,.pt (aB f)),(3,.sl (RW.map cA) RW.length),(4,.rs j 0 b),(5,I b),(6,I (gg (aU f) f.blocks.length b a)),(7,I a)],m,nx⟩)
    (fun a=>a<=f.blocks.length/\(gg (aU f) f.blocks.length b a<0\/∃ p:Nat,gg (aU f) f.blocks.length b a=p/\p<f.blocks.length)) (fun a=>f.blocks.length - a) 0
    (ao eH) ⟨Nat.zero_le _,.inl (by show(-1:Int)<0;omega)⟩ ?_) ?_)
   .rintro a ⟨ha,hp⟩
    refine jy ?_
    refine ab ⟨_,rfl,fun h=>?_,fun h=>?_⟩
    .have halt:a<f.blocks.length:=by simpa using h
     have hx:=ES aj
     have hy:=ES halt
     have Da:=Jf (b:=b) halt
     have hyp:=fun(p:Nat) (h:p<f.blocks.length)=>Jf (a:=p) (b:=a) h
     have aN:gg (aU f) f.blocks.length b (a+1)=if a≠b/\dB (aU f) f.blocks.length a b=true/\(gg (aU f) f.blocks.length b a<0\/dB (aU f) f.blocks.length (gg (aU f) f.blocks.length b a).toNat a=true) then(a:Int) else gg (aU f) f.blocks.length b a:=GW _ _ _ _
     have lN:gg (aU f) f.blocks.length b (a+1)<0\/∃ p:Nat,gg (aU f) f.blocks.length b (a+1)=p/\p<f.blocks.length:=by
      rw[aN]
      split
      .exact .inr ⟨a,rfl,halt⟩
      .exact hp
     generalize gg (aU f) f.blocks.length b a=p at hp aN ⊢
     generalize RR b=Rb at hx Da
     generalize RR a=Ra at hy hyp
     refine ws ?_
     by_cases dD:a=b
     .have iH:((a:Int) !=(b:Int))=false:=by simp[dD]
      rw[if_neg fun h=>h.1 dD] at aN
      refine gL ?_;refine jl ?_;refine J2 ?_;refine jz ?_;refine fB ?_;refine dL ?_;refine br ?_;refine wy ?_;refine dg ?_;refine jz ?_;refine br ?_;refine z fun _ _=>?_;refine z fun _ _=>?_;refine z fun _ _=>?_;refine gl ?_
      refine ab (al rfl (fun h=>(by cases h)) fun h=>cx ?_)
      refine bd ?_
      refine ab (aK (a+1) (ao ⟨rfl,rfl,rfl,rfl,congrArg I aN.symm,rfl,trivial⟩) ⟨by omega,lN⟩ oG)
     have iH:((a:Int) !=(b:Int))=true:=by simp;omega
     cases hd:dB (aU f) f.blocks.length a b with
     |false=>
      rw[hd] at Da aN
      rw[if_neg fun h=>by simp at h] at aN
      refine gL ?_;refine jl ?_;refine J2 ?_;refine jz ?_;refine fB ?_;refine dY ?_;refine br ?_;refine wy ?_;refine dg ?_;refine jz ?_;refine br ?_;refine z fun _ _=>?_;refine z fun _ _=>?_;refine z fun _ _=>?_;refine gl ?_
      refine ab (al rfl (fun h=>(by cases h)) fun h=>cx ?_)
      refine bd ?_
      refine ab (aK (a+1) (ao ⟨rfl,rfl,rfl,rfl,congrArg I aN.symm,rfl,trivial⟩) ⟨by omega,lN⟩ oG)
     |true=>
      rw[hd] at Da aN
      by_cases Dp:p<0
      .have sI:decide (p<0)=true:=decide_eq_true Dp
       rw[if_pos ⟨dD,rfl,.inl Dp⟩] at aN
       refine gL ?_;refine jl ?_;refine J2 ?_;refine jz ?_;refine fB ?_;refine dY ?_;refine br ?_;refine Cp ?_;refine dg ?_;refine jz ?_;refine br ?_;refine z fun _ _=>?_;refine z fun _ _=>?_;refine yr ?_;refine cI ?_
       refine ab (al rfl (fun h=>eO ?_) fun h=>(by cases h))
       refine iF ?_
       refine ab ?_
       refine bd ?_
       refine ab (aK (a+1) (ao ⟨rfl,rfl,rfl,rfl,congrArg I aN.symm,rfl,trivial⟩) ⟨by omega,lN⟩ oG)
      .have sI:decide (p<0)=false:=decide_eq_false Dp
       obtain⟨q,rfl,hq⟩:=hp.resolve_left Dp
       have hz:=hyp q hq
       rw[Int.toNat_natCast] at aN
       cases WW:dB (aU f) f.blocks.length q a with
       |false=>
        rw[WW] at hz aN
        rw[if_neg fun h=>by rcases h.2.2 with h|h;exact Dp h;cases h] at aN
        refine gL ?_;refine jl ?_;refine J2 ?_;refine jz ?_;refine fB ?_;refine dY ?_;refine br ?_;refine Cp ?_;refine dg ?_;refine jz ?_;refine fB ?_;refine wA ?_;refine cI ?_
        refine ab (al rfl (fun h=>(by cases h)) fun h=>cx ?_)
        refine bd ?_
        refine ab (aK (a+1) (ao ⟨rfl,rfl,rfl,rfl,congrArg I aN.symm,rfl,trivial⟩) ⟨by omega,lN⟩ oG)
       |true=>
        rw[WW] at hz aN
        rw[if_pos ⟨dD,rfl,.inr rfl⟩] at aN
        refine gL ?_;refine jl ?_;refine J2 ?_;refine jz ?_;refine fB ?_;refine dY ?_;refine br ?_;refine Cp ?_;refine dg ?_;refine jz ?_;refine fB ?_;refine wA ?_;refine cI ?_
        refine ab (al rfl (fun h=>eO ?_) fun h=>(by cases h))
        refine iF ?_
        refine ab ?_
        refine bd ?_
        refine ab (aK (a+1) (ao ⟨rfl,rfl,rfl,rfl,congrArg I aN.symm,rfl,trivial⟩) ⟨by omega,lN⟩ oG)
    .have aZ:¬ a<f.blocks.length:=by simpa using h
     have:a=f.blocks.length:=by omega
     subst this
     exact ao eH
   .intro s hg
    refine⟨_,hg,eO ?_⟩
    have j7:=Zl (aU f) f.blocks.length b
    have LQ:((List.range (b+1)).map fun b=>gg (aU f) f.blocks.length b f.blocks.length).map I=((List.range b).map fun b=>gg (aU f) f.blocks.length b f.blocks.length).map I++[I (gg (aU f) f.blocks.length b f.blocks.length)]:=by
     rw[List.range_succ,List.map_append,List.map_append];rfl
    generalize gg (aU f) f.blocks.length b f.blocks.length=p at LQ ⊢
    generalize ((List.range b).map fun b=>gg (aU f) f.blocks.length b f.blocks.length)=Lb at av j7 LQ
    refine cL ?_;refine fY ?_;refine Ar ?_;refine bJ ?_
    refine ab ?_
    refine bd ?_
    refine ab (aK (b+1,nx+1,up (up (up m nx (some (.cells [I p] 3))) j none) (nx+1) (some (.cells (Lb.map I++[I p]) 3)),nx+2) (ao eH) ⟨by dsimp only;omega,by dsimp only;omega,?_⟩ (by dsimp only;omega))
    dsimp only
    rw[up_same,LQ]
  .have aZ:¬ b<f.blocks.length:=by simpa using h
   have:b=f.blocks.length:=by omega
   subst this
   exact⟨j,m,nx,ao eH,av⟩
 .rintro s ⟨j,m,nx,hg,av⟩
  refine⟨_,hg,aq ?_⟩
  have jZ:(zp (aU f) f.blocks.length).length=f.blocks.length:=by simp[zp]
  generalize zp (aU f) f.blocks.length=IL at av jZ
  refine bT ?_;refine bJ ?_
  refine ab (aJ (bg [(j,IL.map I,3)] ⟨av,trivial⟩ (l:=[(2,aw IL)]) ⟨?_,trivial⟩) (ap rfl rfl))
  show sub (fz0 j _ (prog.cellsOf 3)) (D.rs j 0 f.blocks.length)=_
  rw[mh (by rw[c3];simp[jZ])]
  unfold aw
  rw[jZ]
theorem AG{f:az}(hs:tF f)(hw:∀ b∈f.blocks,b.fin.aD.length<=9):PCall prog 21 [.agg (aB f)] (tH f):=by
 have s9:=s9 hs hw
 refine aY mixed Vz (by rw[alZ];rfl) (.cons (.agg (gp f)) .nil) (Oz f) ?_
 rw[al0,al1]
 unfold tH
 refine aq ?_
 refine ia ?_;refine c7 ?_;refine J3 ?_
 refine ab (aJ (bg [(0,aB f,26)] eH (l:=[(1,.pt (aB f))]) eH) (ag ?_))
 by_cases cT:eh f=0
 .rw[cT] at s9
  rw[if_pos cT]
  have Gt:=Gt (ER (AI cT)) hw
  generalize fZ (aU f) (lc f) f.blocks.length=dI at Gt ⊢
  refine dh ?_;refine cl s9 ?_;refine J3 ?_
  refine ab (aC (ag ?_))
  refine J0 ?_;refine jC ?_
  refine ab (bp rfl (fun h=>(by cases h)) fun _=>b8 (ag ?_))
  refine dh ?_;refine cl Gt ?_;refine fJ ?_;refine J3 ?_
  exact ab (kM rfl rfl rfl)
 .rw[if_neg cT]
  generalize eh f=ce at cT s9 ⊢
  have iH:(ce !=0)=true:=by simp[cT]
  refine dh ?_;refine cl s9 ?_;refine J3 ?_
  refine ab (aC (ag ?_))
  refine J0 ?_;refine jl ?_
  refine ab (bp rfl (fun _=>?_) fun h=>(by cases h))
  refine aC (ag ?_)
  refine J0 ?_;refine c7 ?_;refine J3 ?_
  exact ab (dn (kM rfl rfl rfl))
theorem AH{f:az}:PCall prog 36 [.agg (aB f)] (tH f):=by
 refine aY mixed VA (by rw[al2];rfl) (.cons (.agg (gp f)) .nil) (Oz f) ?_
 rw[al3,al4]
 unfold tH
 refine aq ?_
 refine ia ?_;refine c7 ?_;refine J3 ?_
 refine ab (aJ (bg [(0,aB f,26)] eH (l:=[(1,.pt (aB f))]) eH) (ag ?_))
 by_cases cT:eh f=0
 .rw[if_pos cT]
  have rJ:=Ih cT
  have bQ:=xq (AI cT)
  have sY:xr f=dp f (cy f) (dJ f.blocks) (cA (bu (aU f) f.blocks.length (-1))):=rfl
  have rH:=U7 bQ (c:=cA (bu (aU f) f.blocks.length (-1))) (.sl (.map fun _=>.s _)) rfl
  rw[sY] at rJ
  generalize fZ (aU f) (lc f) f.blocks.length=dI at rH ⊢
  generalize cA (bu (aU f) f.blocks.length (-1))=cnt at rJ rH
  refine dh ?_;refine cl rJ ?_;refine j6 ?_;refine Wy ?_;refine qf ?_;refine Kd ?_;refine J3 ?_
  refine ab (aC (ag ?_))
  refine J0 ?_;refine jC ?_
  refine ab (bp rfl (fun h=>(by cases h)) fun _=>b8 (ag ?_))
  refine uC ?_;refine cl rH ?_;refine fJ ?_;refine J3 ?_
  exact ab (kM rfl rfl rfl)
 .rw[if_neg cT]
  have rJ:=Ol cT
  generalize eh f=ce at cT rJ ⊢
  have iH:(ce !=0)=true:=by simp[cT]
  refine dh ?_;refine cl rJ ?_;refine j6 ?_;refine Wx ?_;refine qf ?_;refine CW ?_;refine J3 ?_
  refine ab (aC (ag ?_))
  refine J0 ?_;refine jl ?_
  refine ab (bp rfl (fun _=>?_) fun h=>(by cases h))
  refine aC (ag ?_)
  refine J0 ?_;refine c7 ?_;refine J3 ?_
  exact ab (dn (kM rfl rfl rfl))
theorem al5:PCall prog 22 [.z,.z] (B true):=Mt (k:=3) (AE (a:=[]) (b:=[])) (by simp[jW,qe,aw,CY]) (.cons .z (.cons .z .nil))
theorem al6{l:List Int}:PCall prog 22 [aw l,aw l] (B true):=by
 have:=AE (a:=l) (b:=l)
 rwa[decide_eq_true rfl] at this
theorem k9{f:az}{a b:Int}(hs:tF f)(CZ:PCall prog 17 [] (B true)):PCall prog 9 [.agg (aB f),I a,I b] (B true):=by
 have CX:=CX (f:=f)
 have aP:∀ x∈[D.agg (aB f),I a,I b],Tr x:=.cons (.agg (gp f)) (.cons (.s _) (.cons (.s _) .nil))
 refine aY mixed WX (by rw[nt9];rfl) aP (Tr.s _) ?_
 have LR:pU f=true->_:=Zm
 generalize pU f=fb at CX LR
 rw[rs9,sk9]
 refine aq ?_
 refine ia ?_;refine J1 ?_
 refine ab (aJ (bg [(0,aB f,26)] eH (l:=[(1,I a),(2,I b),(3,.pt (aB f))]) eH) (aC (ag ?_)))
 refine dh ?_;refine cl CX ?_;refine cS ?_
 refine ab (bp rfl (fun h=>?_) fun h=>b8 (ag ?_))
 .refine aC (ag ?_)
  refine cl CZ ?_;refine J1 ?_
  exact ab (dn (ap rfl rfl))
 have hw:=LR (by revert h;cases fb<;>simp)
 clear h CX LR
 have AH:=AH (f:=f)
 have AG:=AG hs hw
 have Dc:=Dc (f:=f) (a:=a) (b:=b)
 have AF:=AF (a:=a) (b:=b) hs hw
 rw[abt] at AF
 obtain⟨x,h,hd⟩:=aas f a b
 rw[hd] at Dc AF
 rcases Zn f with⟨e,hi⟩|⟨l,e,hi⟩
 .rw[hi] at AH AG
  have AE:=al5
  refine dh ?_;refine cl AH ?_;refine j6 ?_;refine VB ?_;refine qf ?_;refine c7 ?_;refine J3 ?_;refine er ?_;refine dh ?_;refine cl AG ?_;refine j6 ?_;refine VB ?_;refine qf ?_;refine c7 ?_;refine J3 ?_;refine er ?_;refine dh ?_;refine gL ?_;refine cl Dc ?_;refine j6 ?_;refine uu ?_;refine qf ?_;refine J1 ?_;refine J3 ?_;refine er ?_;refine dh ?_;refine gL ?_;refine cl AF ?_;refine j6 ?_;refine uu ?_;refine qf ?_;refine J1 ?_;refine J3 ?_;refine er ?_;refine cl CZ ?_;refine J2 ?_
  refine bl rfl rfl (iQ (v:=.z) rfl) (fun hc=>⟨ak,trivial⟩) ?_
  refine bl rfl rfl (iQ (v:=.z) rfl) (fun hc=>⟨ak,trivial⟩) ?_
  refine gc AE ?_;refine dY ?_;refine br ?_;refine br ?_;refine dN ?_;refine dY ?_;refine dg ?_;refine dg ?_;refine Ks ?_;refine di ?_;refine br ?_;refine br ?_;refine dN ?_;refine bD ?_
  exact ab (ap rfl (congrArg B (by simp)))
 .rw[hi] at AH AG
  have AE:=al6 (l:=l)
  refine dh ?_;refine cl AH ?_;refine j6 ?_;refine F8 ?_;refine qf ?_;refine fJ ?_;refine J3 ?_;refine er ?_;refine dh ?_;refine cl AG ?_;refine j6 ?_;refine F8 ?_;refine qf ?_;refine fJ ?_;refine J3 ?_;refine er ?_;refine dh ?_;refine gL ?_;refine cl Dc ?_;refine j6 ?_;refine uu ?_;refine qf ?_;refine J1 ?_;refine J3 ?_;refine er ?_;refine dh ?_;refine gL ?_;refine cl AF ?_;refine j6 ?_;refine uu ?_;refine qf ?_;refine J1 ?_;refine J3 ?_;refine er ?_;refine cl CZ ?_;refine J2 ?_;refine s8 ?_;refine s8 ?_;refine gc AE ?_;refine dY ?_;refine br ?_;refine br ?_;refine dN ?_;refine dY ?_;refine dg ?_;refine dg ?_;refine Ks ?_;refine di ?_;refine br ?_;refine br ?_;refine dN ?_;refine bD ?_
  exact ab (ap rfl (congrArg B (by simp)))
end Go.Proofs.Tryz.K
namespace Go.Proofs.Tryz.K
theorem aat{f:az}(hs:tF f){a b:Int}:PCall prog 9 [.agg (aB f),I a,I b] (B true):=k9 hs CZ
end Go.Proofs.Tryz.K
end
