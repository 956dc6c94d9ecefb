/- Part 27. -/
import Derived.Test.YtkogeiacmmckkaaGreatDoorFlowNames26
set_option linter.all false
set_option maxHeartbeats 0
set_option maxRecDepth 10000
section
open Go Go.Proofs List
namespace Go.Abs
open Go.Proofs.Tryz
section
variable{out:List bH}{b:bH}
def UK{v:Nat}{y:bH}(hy:out[v]? =some y):fJ (out.flatMap bq) (v*16) (bq b)=(out.set v b).flatMap bq:=by
 have hv:v<out.length:=(bO.1 hy).1
 have h1:out=out.take v++y::out.drop (v+1):=by
  rw[<- (bO.1 hy).2, <- drop_eq_getElem_cons hv,take_append_drop]
 have h2:out.set v b=out.take v++b::out.drop (v+1):=set_eq_take_append_cons_drop .. |>.trans (by rw[bi hv])
 have J:((out.take v).flatMap bq).length=v*16:=by
  rw[pd (sz:=16) (λ_=>rfl),length_take,Nat.min_eq_left oG]
 have C:out.flatMap bq=(out.take v).flatMap bq++(bq y++(out.drop (v+1)).flatMap bq):=by
  conv=>lhs;rw[h1]
  rw[flatMap_append,flatMap_cons]
 rw[h2,C,flatMap_append,flatMap_cons];exact WR (j:=0) J (by simp[bq,aR]) (by rw[take_zero,nil_append,Nat.zero_add];congr 1)
def agO{to A s:List Int}{x:Ins}(hp:s.Perm A)(hs:s.Pairwise λp q=>bf to p<=bf to q)(hn:A.Nodup)(C:∀ p∈A,∀ q∈A,bf to p=bf to q->p=q)(J:x.op=19):
 { x with args:=s.map λp=>x.args.getD (A.idxOf p) 0 }=eP to A x:=by
 have O:s.Nodup:=hp.nodup_iff.2 hn
 have al:s.Pairwise λp q=>bf to p<bf to q:=(hs.and O).imp_of_mem λ{p q} h1 h2 h=>by
  have:bf to p≠bf to q:=λe=>h.2 (C p (hp.mem_iff.1 h1) q (hp.mem_iff.1 h2) e);omega
 rw[eP,bi J,ain (λp=>hp.mem_iff) al hn C]
variable{l:List Ins}
def agP{to A:List Int}{k:Nat}{y:Ins}(hy:l[k]? =some y)(J:y.op≠19)(h:∀ (j:Nat) C,l[j]? =some C->C.op=19->∀ (i:Nat) x,i<=j->l[i]? =some x->x.op=19):(l.take k).map (eP to A)++l.drop k=l.map (eP to A):=by
 conv=>rhs;rw[<- take_append_drop k l,map_append]
 congr 1;refine(map_id _).symm.trans (map_congr_left λC hz=>?_);let⟨j,hj⟩:=dW hz;rw[getElem?_drop] at hj;have:C.op≠19:=λe=>J (h _ C hj e k y oG hy);rw[eP,ai this];rfl
structure MW(M:Mem)(f:aO)(out:List bH)(lo r g q:Nat)(s w:Nat->Nat)(i p1:Nat)(b:bH)(l:List Ins)(e:End):Prop where
 mv:MV M f out lo r g q s w (i+1)
 p:M p1=some (.cells (.rs (s i) 0 b.ins.length::aR e) 69)
 sr:M (s i)=some (.cells (l.flatMap aI) 45)
 lt:s i<lo
 h2:2<s i
 qp:q<p1
variable{M:Mem}{f:aO}{e:End}
def MW.mono{M':Mem}{lo r g q:Nat}{s w:Nat->Nat}{i p1 nx:Nat}(h:MW M f out lo r g q s w i p1 b l e)(hm:∀ j,j<nx->M' j=M j)(hx:p1<nx):MW M' f out lo r g q s w i p1 b l e:=by
 have h1:=h.lt;have C:=h.qp;have J:=h.mv.o2;have O:=h.mv.o3;have U:=h.mv.o4;have X:=h.mv.o1;exact⟨h.mv.mono λj hj=>hm j oG,by rw[hm _ hx];exact h.p,by rw[hm _ oG];exact h.sr,h1,h.h2,C⟩
def MW.qJ{lo r g q:Nat}{s w:Nat->Nat}{i p1 p sz:Nat}{l:List Ins}{cs:List D}(h:MW M f out lo r g q s w i p1 b l e)(hp:p1<p):MW (ig p cs sz M) f out lo r g q s w i p1 b l e:=by
 have h1:=h.lt;have C:=h.qp;have O:=h.mv.o2;have U:=h.mv.o3;have X:=h.mv.o4;have h7:=h.mv.o1;have J:=h.h2;refine⟨h.mv.qJ (.inr oG) oG,kx h.p oG (.cells λd hd=>?_),kx h.sr oG (xz Jo _),h1,J,C⟩;rcases mem_cons.1 hd with rfl|hd
 .exact .rs oG
 .exact Gi _ d hd
def MW.upS{lo r g q:Nat}{s w:Nat->Nat}{i p1:Nat}{C:List Ins}(h:MW M f out lo r g q s w i p1 b l e):MW (up M (s i) (some (.cells (C.flatMap aI) 45))) f out lo r g q s w i p1 b C e:=by
 have h1:=h.lt;have J:=h.qp;have U:=h.mv.o2;have X:=h.mv.o3;have h6:=h.mv.o4;have h7:=h.mv.o1;have O:=h.h2;exact⟨h.mv.mono λj hj=>aW _ _ oG,aq oG h.p,ap _ _ _,h1,O,J⟩
end
def SP{f:aO}{to:List Int}(eE:to.length<=100000)(hf:fL f=0->JU f)(AS:f.blocks.length<=100000\/fL f≠0)(ao1:f.ag.length<=100000)(vd:f.aU.length<=100000):aE prog 54 [.agg (aG f),av to] (.bu [.agg (if tH f to=0 then aG (uG f to) else ef),I (tH f to)]):=by
 have rM:=rM (f:=f)
 have bB:∀ a∈(if tH f to=0 then aG (uG f to) else ef),Tr a:=by
  split
  .exact jG _
  .exact .cons (.s _) (.cons (.s _) (.cons (.s _) (.cons (.s _) (.cons .z (.cons .z (.cons .z (.cons .z .nil)))))))
 refine bN (fo f54) (.cons (.agg (jG _)) (.cons (cR _) .nil)) (.bu (.cons (.agg bB) fl)) ?_;clear bB;refine aF (aX ?_);refine ab ⟨_,(pf (i:=0) (cs:=aG f) (e:=26) rfl (l:=[(2,.pt (aG f)),(3,.rp 1 0),(4,.rp 2 0),(5,I 0)]) eH (ml:=[(1,.cells [av to] 35),(2,.cells ef 26)]) eH).trans (pf (i:=1) (cs:=[av to]) (e:=35) rfl (l:=[(2,.pt (aG f)),(3,.pt [av to]),(4,.rp 2 0),(5,I 0)]) eH (ml:=[(2,.cells ef 26)]) eH),aM (aj ?_)⟩;refine az ?_;refine ab (aM (aj (af ?_)));by_cases hc:fL f=0
 case neg=>
  have e:tH f to=fL f:=ai hc;rw[e,ai hc];generalize fL f=c at*
  refine ab (cG rfl (λ_=>aM (aj ?_)) λh=>absurd (tn h) hc);refine aX ?_;exact ab (dX (rX (fT (cs:=ef) (vs:=ef) rfl rfl a26 iS rfl t26 (aP rfl)) rfl rfl))
 have hF:=hf hc;have e:tH f to=if lX to f.blocks.length 1 then 0 else 1:=bi hc
 rw[hc];rw[hc] at rM;refine ab (cG rfl (λh=>by simp at h) λ_=>dn (aM (aj ?_)));have ao4:=hF.ok.lim;have Aq:=Aq (to:=to) (N:=f.blocks.length) (fixed:=1) oG eE;refine cB ?_;cases hp:lX to f.blocks.length 1 with
 |false=>
  rw[hp] at e;rw[e];refine ab (cG rfl (λ_=>aM (aj ?_)) λh=>by simp at h);refine az ?_;exact ab (dX (rX (fT (cs:=ef) (vs:=ef) rfl rfl a26 iS rfl t26 (aP rfl)) rfl rfl))
 |true=>
 rw[hp] at e;rw[e,bi rfl,bi rfl];refine ab (cG rfl (λh=>by simp at h) λ_=>dn ?_);have hP:=Qp hp;have hlen:=hP.len;clear hp e hf rM Aq hc AS;refine ws (SS ?_);apply wj (alk ao1 vd hF.l3 oG hF.blk) rfl aB;rintro d M g ⟨r,O,wf,lo,h1,h2,h3,rfl,h4,h5,h6⟩;dsimp[St.put];refine SS ?_;refine bT (eK (cs':=headD f (.rs r 0 f.blocks.length) (cH f.ag)) rfl rfl s3 rfl) aB (bW t26 iS ⟨rfl,aP rfl⟩ rfl) (ab (aF ?_));have an:∀ {M:Mem} {c},up M g c g=c:=ap _ _ _;have kd:(headD f (.rs r 0 f.blocks.length) (cH f.ag)).drop (0+7)=.rs r 0 f.blocks.length::[]:=rfl;have dQ:up (up M g (some (.cells ef 26))) g (some (.cells (headD f (.rs r 0 f.blocks.length) (cH f.ag)) 26)) r=some (.cells (tv f.blocks O wf f.blocks.length) 69):=aq oG (aq oG h4);refine az ?_;refine cY (zx rfl rfl V.h V.h) ak ⟨oG,rfl,oG,by rw[CN];omega,V.h⟩ (SS ?_);obtain⟨M1,zb⟩:∃ M1:Mem,M1=up (up (up (up M g (some (.cells ef 26))) g (some (.cells (headD f (.rs r 0 f.blocks.length) (cH f.ag)) 26))) (g+1) (some (.cells (dp f.blocks.length uh) 69))) (g+1) (some (.cells ((replicate f.blocks.length jx).flatMap bq) 69)):=⟨_,rfl⟩
 have U:MV M1 f (jz f to 0) lo r g (g+1) O wf 0:=by
  rw[zb];refine⟨?_,?_,ap _ _ _,⟨[],rfl,?_⟩,λj _ hj=>h5.s1 j hj,λj k _ uV hk=>h5.s2 j k uV hk,λj b hb _=>?_,λj b hb _=>?_,oG,h2,h3,Nat.lt_succ_self _⟩
  .exact aq oG (aq oG (aq oG (aq oG (h6 2 oG))))
  .exact aq oG (aq oG s3)
  .exact aq oG (aq oG (aq oG (aq oG (by rw[h4,aio];rfl))))
  .have hj:=(bO.1 hb).1;have:=h5.s1 j hj;exact aq oG (aq oG (aq oG (aq oG (h5.ms j b hb hj))))
  .have hj:=(bO.1 hb).1;have:=h5.s1 j hj;exact aq oG (aq oG (aq oG (aq oG (h5.mw j b hb hj))))
 refine ab ⟨⟨ay [(2,.pt (aG f)),(3,.pt [av to]),(4,.rp 2 0),(5,I 0),(7,.rp g 0),(8,.rs (g+1) 0 f.blocks.length)],M1,g+1+1⟩,?_,aF ?_⟩
 .rw[zb];exact(ao (l:=[(2,.pt (aG f)),(3,.pt [av to]),(4,.rp 2 0),(5,I 0),(7,.rp g 0),(8,.rs (g+1) 0 f.blocks.length)]) eH).trans (Uc (n:=f.blocks.length) s3)
 clear h4 h5 h6 an dQ kd zb;have xd:=xd (p:=.s (.map none)) (q:=.s (.map none)) (f:=f) (.s _) (.s _) rfl rfl rfl oG (λb hb=>Nat.le_trans (hF.ok.ends b hb).wh oC) (λb hb=>(hF.ok.blk b hb).to);refine aX ?_;apply bT (dM (d:=.sl _ _) (cs':=[cr (iy f.blocks)]) rfl rfl s3 rfl rfl) aB (bW t96 c96 ⟨rfl,aP rfl⟩ rfl);have SJ:=U.o4;obtain⟨M2,A0⟩:∃ M2:Mem,M2=ig (g+1+1) [cr (iy f.blocks)] (prog.cellsOf 96) (up (up M1 (g+1+1) (some (.cells [.z] 96))) (g+1+1) (some (.cells [cr (iy f.blocks)] 96))):=⟨_,rfl⟩
 refine ab ⟨⟨ay [(3,.pt [av to]),(4,.rp 2 0),(5,I 0),(7,.rp g 0),(8,.rs (g+1) 0 f.blocks.length),(9,.pt [cr (iy f.blocks)])],M2,g+1+1+1⟩,?_,aM (aF ?_)⟩
 .rw[A0];exact pR (i:=g+1+1) (cs:=[cr (iy f.blocks)]) (e:=96) (l:=[(3,.pt [av to]),(4,.rp 2 0),(5,I 0),(7,.rp g 0),(8,.rs (g+1) 0 f.blocks.length),(9,.pt [cr (iy f.blocks)])]) s3 ⟨rfl,gk oG,rfl,gk oG,lR oG,mC,aa⟩
 have U:=(U.mono (M':=up (up M1 (g+1+1) (some (.cells [.z] 96))) (g+1+1) (some (.cells [cr (iy f.blocks)] 96))) λj hj=>(aW _ _ oG).trans (aW _ _ oG)).qJ (p:=g+1+1) (sz:=prog.cellsOf 96) (cs:=[cr (iy f.blocks)]) (.inr oG) oG;rw[<- A0] at U;clear A0;clear xd;have an:=U.rg;have kd:(headD f (.rs r 0 f.blocks.length) (cH f.ag)).drop (0+7)=.rs r 0 f.blocks.length::[]:=rfl;let⟨ato,alx,dQ⟩:=U.rr;refine aX ?_;have zc:∀ i,i<f.blocks.length->(iy f.blocks)[i]? =some (cA f.blocks f.blocks.length i):=λi hi=>Nq rfl hi;have A1:(iy f.blocks).length=f.blocks.length:=by simp[iy]
 generalize hLL:iy f.blocks=L at zc A1
 refine ab (cJ (λst=>∃ lo M nx,MV M f (jz f to f.blocks.length) lo r g (g+1) O wf f.blocks.length/\aL prog st ⟨ay [(4,.rp 2 0),(5,I 0),(7,.rp g 0),(8,.rs (g+1) 0 f.blocks.length)],M,nx⟩) (gl (α:=Nat×Nat×Mem×Nat)
  (λst=>⟨ay [(3,.pt [av to]),(4,.rp 2 0),(5,I 0),(7,.rp g 0),(8,.rs (g+1) 0 f.blocks.length),(9,.pt [cr L]),(38,.rs r 0 f.blocks.length),(39,I f.blocks.length),(40,I st.1)],st.2.2.1,st.2.2.2⟩)
  (λst=>st.1<=f.blocks.length/\g+1<st.2.2.2/\MV st.2.2.1 f (jz f to st.1) st.2.1 r g (g+1) O wf st.1) (λst=>f.blocks.length - st.1) (0,lo,M2,g+1+1+1)
  (ao eH) ⟨Nat.zero_le _,oM,U⟩ ?_) ?_)
 .clear an dQ U kd alx hLL h1 h2;rintro⟨i,lo,M,nx⟩ ⟨hi,eh,U⟩;dsimp only at hi eh U ⊢;refine SS ?_;refine ab ⟨_,rfl,λh=>?_,λh=>?_⟩
  .have al:i<f.blocks.length:=tn h
   clear h;let⟨b,hb⟩:=tS f.blocks i al
   let⟨v,hvn,hv⟩:=hP.at_ i al;have lb:=cL hb;have CQ:=hF.blk b lb;have LL:Lg to.length b.fin:=by rw[hlen];exact hF.led b lb
   have LM:=hF.AZ i b hb;have hLi:=zc i al;have wQ:=UL (to:=to) hb;rw[DH hv,eC] at wQ;have qC:=Gw (f:=f) (to:=to) i;obtain⟨x0,FI⟩:∃ x,(jz f to i)[v]? =some x:=⟨_,aV oG⟩
   have hB:=U.br i (bK _) al;have hV2:=U.next hb
   have o1:=U.o1;have o2:=U.o2;have o3:=U.o3;have hmS:=U.ms i b hb (bK _);have hmW:=U.mw i b hb (bK _);let⟨pre,wy,kY⟩:=U.rr;rw[Ud hb] at kY
   have qE:(pre++(kC b (O i) (wf i)++um f.blocks O wf (i+1))).length=i*16+(16+(um f.blocks O wf (i+1)).length):=by
    rw[length_append,length_append,wy];rfl
   generalize um f.blocks O wf (i+1)=C at kY qE;generalize jz f to i=out at*
   clear U;have an:=kY;refine aF (SS ?_);refine ax (xL rfl rfl an V.h V.h) ak ⟨V.h,oG⟩ (ax (dL (vs:=kC b (O i) (wf i)) rfl kY FC mN (PH (j:=0) wy rfl)) aB (dN t69 mN (by rw[qE];omega)) (af ?_));refine bT (dM (d:=.s (.int _ _)) (cs':=[I i]) rfl rfl (aq oG s3) rfl rfl) aB (bW t3 c3 ⟨rfl,aP rfl⟩ rfl) (bT (eK (cs':=kC b (O i) (wf i)) rfl rfl (aq oG s3) rfl) aB (bW t69 mN ⟨rfl,aP rfl⟩ rfl) ?_);obtain⟨M3,Mu⟩:∃ M3:Mem,M3=ig nx [I i] (prog.cellsOf 3) (up (up (up (up M nx (some (.cells [I 0] 3))) (nx+1) (some (.cells uh 69))) nx (some (.cells [I i] 3))) (nx+1) (some (.cells (kC b (O i) (wf i)) 69))):=⟨_,rfl⟩
   refine ab ⟨⟨ay [(3,.pt [av to]),(4,.rp 2 0),(5,I 0),(7,.rp g 0),(8,.rs (g+1) 0 f.blocks.length),(9,.pt [cr L]),(38,.rs r 0 f.blocks.length),(39,I f.blocks.length),(40,I i),(10,.pt [I i]),(11,.rp (nx+1) 0)],M3,nx+1+1⟩,?_,?_⟩
   .rw[Mu];exact pR (i:=nx) (cs:=[I i]) (e:=3) (l:=[(3,.pt [av to]),(4,.rp 2 0),(5,I 0),(7,.rp g 0),(8,.rs (g+1) 0 f.blocks.length),(9,.pt [cr L]),(38,.rs r 0 f.blocks.length),(39,I f.blocks.length),(40,I i),(10,.pt [I i]),(11,.rp (nx+1) 0)]) (aq oG s3) ⟨rfl,gk oG,rfl,gk oG,lR oG,rfl,lR oG,rfl,rfl,mC,gk oG,aa⟩
   have hM:∀ {a b c d:Option Row} {j:Nat},j<nx->up (up (up (up M nx a) (nx+1) b) nx c) (nx+1) d j=M j:=λh=>(aW _ _ oG).trans ((aW _ _ oG).trans ((aW _ _ oG).trans (aW _ _ oG)));have q1:=(hV2.mono (M':=up (up (up (up M nx (some (.cells [I 0] 3))) (nx+1) (some (.cells uh 69))) nx (some (.cells [I i] 3))) (nx+1) (some (.cells (kC b (O i) (wf i)) 69))) λj hj=>hM oG).qJ (p:=nx) (sz:=prog.cellsOf 3) (cs:=[I i]) (.inr oG) oG;have q2:=kx (i:=nx) (sz:=prog.cellsOf 3) (cs:=[I i]) ((hM (a:=some (.cells [I 0] 3)) (b:=some (.cells uh 69)) (c:=some (.cells [I i] 3)) (d:=some (.cells (kC b (O i) (wf i)) 69)) (j:=O i) oG).trans hmS) oG (xz Jo _);have q3:=kx (i:=nx) (sz:=prog.cellsOf 3) (cs:=[I i]) ((hM (a:=some (.cells [I 0] 3)) (b:=some (.cells uh 69)) (c:=some (.cells [I i] 3)) (d:=some (.cells (kC b (O i) (wf i)) 69)) (j:=wf i) oG).trans hmW) oG (TQ _)
   have q4:M3 (nx+1)=some (.cells (kC b (O i) (wf i)) 69):=by
    rw[Mu];exact kx s3 oG (.cells (Ue oG oG))
   rw[<- Mu] at q1 q2 q3;clear Mu;clear hM hV2 hmS hmW kY an;refine cI (λst=>∃ M aw,nx+1<aw/\MW M f out (wf i+1) r g (g+1) O wf i (nx+1) b b.ins (mI to b.fin)/\aL prog st ⟨ay [(3,.pt [av to]),(4,.rp 2 0),(5,I 0),(7,.rp g 0),(8,.rs (g+1) 0 f.blocks.length),(9,.pt [cr L]),(38,.rs r 0 f.blocks.length),(39,I f.blocks.length),(40,I i),(10,.pt [I i]),(11,.rp (nx+1) 0)],M,aw⟩) (eI ?_) ?_
   .have an:=q4;refine SS ?_;refine ax (dL (vs:=fw b.fin (.rs (wf i) 0 b.fin.aA.length)) rfl q4 FG rP rfl) aB (dN t48 rP (aP rfl)) (SS ?_);apply wj (alh oG q3 LL) rfl aB;rintro d M4 aw ⟨rfl,h4,h5,h6⟩;dsimp[St.put];have an:=(h5 (nx+1) oG oG).trans q4;refine SS ?_;refine bT (eK (cs':=.rs (O i) 0 b.ins.length::fw (mI to b.fin) (.rs (wf i) 0 b.fin.aA.length)) rfl rfl an rfl) aB (bW t48 rP ⟨rfl,aP rfl⟩ rfl) (ab ⟨_,aw,oG,?_,(pR (i:=wf i) (cs:=(b.fin.aA.map (gv to)).flatMap cK) (e:=82) (l:=[(3,.pt [av to]),(4,.rp 2 0),(5,I 0),(7,.rp g 0),(8,.rs (g+1) 0 f.blocks.length),(9,.pt [cr L]),(38,.rs r 0 f.blocks.length),(39,I f.blocks.length),(40,I i),(10,.pt [I i]),(11,.rp (nx+1) 0)]) (aq oG h4) ⟨rfl,gk oG,rfl,gk oG,lR oG,rfl,lR oG,rfl,rfl,rfl,gk oG,aa⟩)⟩);refine⟨(q1.mono λj hj=>(aW _ _ oG).trans (h5 j oG oG)).qJ (.inl (Nat.lt_succ_self _)) oG,?_,kx ((aW _ _ oG).trans ((h5 _ oG oG).trans q2)) oG (xz Jo _),oG,oG,oG⟩;rw[ig,ai oG,ap];show some (Row.cells (sub _ (.rs (O i) 0 b.ins.length)::fw (mI to b.fin) (sub _ (.rs (wf i) 0 b.fin.aA.length))) 69)=_;rw[lR oG,oI,FA,drop_zero,s9 (f:=cK) (sz:=2) (λ_=>rfl),cW oS];show some (Row.cells (_::fw (mI to b.fin) (.sl ((b.fin.aA.map (gv to)).flatMap cK) b.fin.aA.length)) 69)=some (Row.cells (_::fw (mI to b.fin) (.sl ((b.fin.aA.map (gv to)).flatMap cK) (b.fin.aA.map (gv to)).length)) 69);rw[length_map]
   clear q1 q2 q3 q4 LL;rintro st ⟨M4,vo,aau,J,bw⟩;refine⟨_,bw,aj ?_⟩;clear bw M3
   have vq:∀ p∈cA f.blocks f.blocks.length i,0<=p/\p<f.blocks.length:=λp hp=>by
    obtain⟨c,rfl,h1,_⟩:=Gb.1 hp;omega
   have IC:=Gc (bs:=f.blocks) (λb hb=>Nat.le_trans (hF.ok.ends b hb).wh oC) f.blocks.length i;have hAn:(cA f.blocks f.blocks.length i).Nodup:=((Ja (λb hb t ht=>((hF.ok.blk b hb).to t ht).1) f.blocks.length i).1).imp λh=>by omega
   have mj:FJ f to i b=⟨b.ins.map (eP to (cA f.blocks f.blocks.length i)),mI to b.fin⟩:=rfl;generalize cA f.blocks f.blocks.length i=A at*
   have hAi:∀ p∈A,∀ q∈A,bf to p=bf to q->p=q:=λp hp q hq e=>by
    let⟨p0,p1⟩:=vq p hp;let⟨q0,q1⟩:=vq q hq;obtain⟨p,rfl⟩:=fc p0;obtain⟨q,rfl⟩:=fc q0;let⟨a,_,ha⟩:=hP.at_ p oG;let⟨c,_,hc⟩:=hP.at_ q oG;rw[DH ha,DH hc] at e;rw[e] at ha;rcases Nat.lt_trichotomy p q with h|h|h
    .exact absurd (ha.trans hc.symm) (hP.inj p q h oG)
    .rw[h]
    .exact absurd (hc.trans ha.symm) (hP.inj q p h oG)
   have aak:∀ v∈to,0<=v/\v<=100000:=λv hv=>by
    let⟨k,hk⟩:=dW hv;have lM:=(bO.1 hk).1;let⟨a,ha,hka⟩:=hP.at_ k oG;rw[hk] at hka;have:=Option.some.inj hka;omega
   refine aX ?_;refine z6 (aoY (l:=A) oG) rfl aB (SS ?_);refine ab (aF (af ?_));apply wj (ao5 (l:=A) (to:=to) oG (by rw[hlen];exact vq) aak s3) rfl aB;rintro d M5 nx5 ⟨rfl,rfl,Sl,SQ,hS2,rfl⟩;dsimp[St.put];have hSl:=SQ.length_eq
   have np:sub (cZ vo (Sl.map I) (prog.cellsOf 3)) (.rs vo 0 A.length)=av Sl:=by
    rw[oI,c3,drop_zero,Nat.mul_one,cW (by rw[length_map,hSl];exact bK _), <- hSl]
   refine ab ⟨_,pR (i:=vo) (cs:=Sl.map I) (e:=3) (l:=[(3,.pt [av to]),(4,.rp 2 0),(5,I 0),(7,.rp g 0),(8,.rs (g+1) 0 f.blocks.length),(9,.pt [cr L]),(38,.rs r 0 f.blocks.length),(39,I f.blocks.length),(40,I i),(10,.pt [I i]),(11,.rp (nx+1) 0),(12,av Sl)]) s3 ⟨rfl,gk oG,rfl,gk oG,lR oG,rfl,lR oG,rfl,rfl,rfl,gk oG,np,aa⟩,aM (aF ?_)⟩;have J:=(J.mono (M':=up (up M4 vo (some (.cells (A.map I) 3))) vo (some (.cells (Sl.map I) 3))) (nx:=vo) (λj hj=>(aW _ _ oG).trans (aW _ _ oG)) aau).qJ (p:=vo) (sz:=prog.cellsOf 3) (cs:=Sl.map I) aau;generalize ig vo (Sl.map I) (prog.cellsOf 3) (up (up M4 vo (some (.cells (A.map I) 3))) vo (some (.cells (Sl.map I) 3)))=M6 at J;clear np;have an:=J.p;have kd:(D.rs (O i) 0 b.ins.length::aR (mI to b.fin)).drop (0+0)=.rs (O i) 0 b.ins.length::aR (mI to b.fin):=rfl;have dQ:=J.sr;refine aX ?_
   refine ab (cJ (λst=>∃ M aw,nx+1<aw/\MW M f out (wf i+1) r g (g+1) O wf i (nx+1) b (b.ins.map (eP to A)) (mI to b.fin)/\aL prog st ⟨ay [(3,.pt [av to]),(4,.rp 2 0),(5,I 0),(7,.rp g 0),(8,.rs (g+1) 0 f.blocks.length),(9,.pt [cr L]),(38,.rs r 0 f.blocks.length),(39,I f.blocks.length),(40,I i),(10,.pt [I i]),(11,.rp (nx+1) 0)],M,aw⟩) (gl (α:=Nat×Mem×Nat)
    (λst=>⟨ay [(3,.pt [av to]),(4,.rp 2 0),(5,I 0),(7,.rp g 0),(8,.rs (g+1) 0 f.blocks.length),(9,.pt [cr L]),(38,.rs r 0 f.blocks.length),(39,I f.blocks.length),(40,I i),(10,.pt [I i]),(11,.rp (nx+1) 0),(12,av Sl),(59,.rs (O i) 0 b.ins.length),(60,I b.ins.length),(61,I st.1)],st.2.1,st.2.2⟩)
    (λst=>st.1<=b.ins.length/\nx+1<st.2.2/\MW st.2.1 f out (wf i+1) r g (g+1) O wf i (nx+1) b ((b.ins.take st.1).map (eP to A)++b.ins.drop st.1) (mI to b.fin)) (λst=>b.ins.length - st.1) (0,M6,vo+1)
    (ao eH) ⟨Nat.zero_le _,oM,J⟩ ?_) ?_)
   .clear J an dQ kd FI wQ mj qC;rintro⟨k,M,tR⟩ ⟨hk,LN,J⟩;dsimp only at hk LN J ⊢;refine SS ?_;refine ab ⟨_,rfl,λh=>?_,λh=>?_⟩
    .have jo:k<b.ins.length:=tn h
     clear h;let⟨y,hy⟩:=tS b.ins k jo
     have pL:=CQ.ins
     have lP:((b.ins.take k).map (eP to A)++b.ins.drop k).flatMap aI=((b.ins.take k).map (eP to A)).flatMap aI++(aI y++(b.ins.drop (k+1)).flatMap aI):=by
      rw[flatMap_append,drop_eq_getElem_cons jo,flatMap_cons,(bO.1 hy).2]
     have uT:((b.ins.take (k+1)).map (eP to A)++b.ins.drop (k+1)).flatMap aI=((b.ins.take k).map (eP to A)).flatMap aI++(aI (eP to A y)++(b.ins.drop (k+1)).flatMap aI):=by
      rw[take_add_one,hy,map_append,flatMap_append,flatMap_append];simp
     have hA:(((b.ins.take k).map (eP to A)).flatMap aI).length=k*6:=by
      rw[pd (sz:=6) (λ_=>rfl),length_map,length_take,Nat.min_eq_left hk]
     have an:=J.sr;rw[lP] at an;have w1:=J.lt;have w2:=J.qp;have w3:=J.mv.o2;have w4:=J.mv.o3;have w5:=J.h2;generalize hAA:((b.ins.take k).map (eP to A)).flatMap aI=AA at*
     generalize hCC:(b.ins.drop (k+1)).flatMap aI=CC at*
     have wY:∀ zQ:Ins,(AA++(aI zQ++CC)).length=k*6+(6+CC.length):=λzQ=>by
      rw[length_append,length_append,hA];rfl
     refine aF (SS ?_);refine ax (xL rfl rfl an V.h V.h) ak ⟨V.h,oG⟩ (ax (dL (vs:=aI y) rfl an a45 kG (PH (j:=0) hA rfl)) aB (dN t45 kG (by rw[wY];omega)) (af ?_));apply bT (eK (cs':=aI y) rfl rfl s3 rfl) aB (bW t45 kG ⟨rfl,aP rfl⟩ rfl);obtain⟨M8,SR⟩:∃ M8:Mem,M8=ig tR (aI y) (prog.cellsOf 45) (up (up M tR (some (.cells tG 45))) tR (some (.cells (aI y) 45))):=⟨_,rfl⟩
     refine ab ⟨⟨ay [(3,.pt [av to]),(4,.rp 2 0),(5,I 0),(7,.rp g 0),(8,.rs (g+1) 0 f.blocks.length),(9,.pt [cr L]),(38,.rs r 0 f.blocks.length),(39,I f.blocks.length),(40,I i),(10,.pt [I i]),(11,.rp (nx+1) 0),(12,av Sl),(59,.rs (O i) 0 b.ins.length),(60,I b.ins.length),(61,I k),(13,I k),(14,.pt (aI y))],M8,tR+1⟩,?_,aM (aj ?_)⟩
     .rw[SR];exact pR (i:=tR) (cs:=aI y) (e:=45) (l:=[(3,.pt [av to]),(4,.rp 2 0),(5,I 0),(7,.rp g 0),(8,.rs (g+1) 0 f.blocks.length),(9,.pt [cr L]),(38,.rs r 0 f.blocks.length),(39,I f.blocks.length),(40,I i),(10,.pt [I i]),(11,.rp (nx+1) 0),(12,av Sl),(59,.rs (O i) 0 b.ins.length),(60,I b.ins.length),(61,I k),(13,I k),(14,.pt (aI y))]) s3 ⟨rfl,gk oG,rfl,gk oG,lR oG,rfl,lR oG,rfl,rfl,rfl,gk oG,rfl,lR oG,rfl,rfl,rfl,mC,aa⟩
     clear an;have J:=(J.mono (M':=up (up M tR (some (.cells tG 45))) tR (some (.cells (aI y) 45))) (nx:=tR) (λj hj=>(aW _ _ oG).trans (aW _ _ oG)) LN).qJ (p:=tR) (sz:=prog.cellsOf 45) (cs:=aI y) LN;rw[<- SR] at J;clear SR;refine az ?_;refine ab (cG rfl (λhp=>tU (ahO oC ?_)) λhp=>dn (r8 (ij [(0,5),(1,5)]) ?_))
     .have dm:y.op≠19:=tn hp
      have e:=agP (to:=to) (A:=A) hy dm λj zQ hz h=>(LM j zQ hz h).2;rw[e] at J;exact⟨_,tR+1,oG,J,ao eH⟩
     have dm:y.op=19:=tn hp
     have zd:=(LM k y hy dm).1;have hsy:=agO SQ hS2 hAn hAi dm
     have wG:=wG (l:=Sl) (g:=122) (fs:=[]) (cs:=[.pt (aI y),.pt [cr L],.pt [I i]]) (p:=λp=>y.args.getD (A.idxOf p) 0) oG (.fn oS (.cons (.pt (jP _)) (.cons (.pt (.cons (DG _) .nil)) (.cons (.pt fl) .nil)))) (λp hp=>by
      have hpA:=SQ.mem_iff.1 hp;have:=idxOf_lt_length_of_mem hpA
      exact ao0 hLi hpA (by rw[dF,aV oG];rfl))
     generalize hSS:Sl.map (λp=>y.args.getD (A.idxOf p) 0)=Sq1 at*
     have an:=J.p;have kd:(D.rs (O i) 0 b.ins.length::aR (mI to b.fin)).drop (0+0)=.rs (O i) 0 b.ins.length::aR (mI to b.fin):=rfl;have dQ:=J.sr;rw[lP] at dQ;refine cF ?_;refine bT (dM (d:=.sl _ _) (cs':=AA++(aI (eP to A y)++CC)) rfl rfl dQ rfl (B' (j:=5) hA (by rw[<- hsy];rfl))) aB (bW t35 jC ⟨rfl,by rw[wY];omega⟩ rfl) (bU (by simp[mT];try omega) (af ?_));refine ab (bA (k+1,_,tR+1) (ao eH) ⟨oM,oM,?_⟩ oM);dsimp only;rw[<- uT];exact J.upS
    .have bJ:¬ k<b.ins.length:=tn h
     have:k=b.ins.length:=by omega
     subst this;rw[take_length,List.drop_length,append_nil] at J;exact⟨M,tR,LN,J,ao eH⟩
   clear J an dQ kd;rintro st ⟨M,nx8,atp,J,bw⟩;have w1:=J.lt;have w2:=J.qp;have w3:=J.mv.o2;have w4:=J.mv.o3;have w5:=J.h2;have w6:=J.mv.o1
   have ie:ig (O i) ((b.ins.map (eP to A)).flatMap aI) (prog.cellsOf 45) M (nx+1)=some (.cells (bq (FJ f to i b)) 69):=by
    rw[ig,ai oG,J.p,mj];show some (Row.cells (sub _ (.rs (O i) 0 b.ins.length)::(aR (mI to b.fin)).map _) 69)=_;rw[UM (X:=λk=>k=O i) (Gi _) rfl,oI,kG,drop_zero,s9 (f:=aI) (sz:=6) (λ_=>rfl),cW oS];show some (Row.cells (.sl ((b.ins.map (eP to A)).flatMap aI) b.ins.length::aR (mI to b.fin)) 69)=some (Row.cells (.sl ((b.ins.map (eP to A)).flatMap aI) (b.ins.map (eP to A)).length::aR (mI to b.fin)) 69);rw[length_map]
   have hV9:=J.mv.qJ (p:=O i) (sz:=prog.cellsOf 45) (cs:=(b.ins.map (eP to A)).flatMap aI) (.inl oG) oG;refine⟨_,bw.trans (pR (i:=O i) (cs:=(b.ins.map (eP to A)).flatMap aI) (e:=45) (l:=[(3,.pt [av to]),(4,.rp 2 0),(5,I 0),(7,.rp g 0),(8,.rs (g+1) 0 f.blocks.length),(9,.pt [cr L]),(38,.rs r 0 f.blocks.length),(39,I f.blocks.length),(40,I i),(10,.pt [I i]),(11,.rp (nx+1) 0)]) J.sr ⟨rfl,gk oG,rfl,gk oG,lR oG,rfl,lR oG,rfl,rfl,rfl,gk oG,aa⟩),r8 iB ?_⟩;clear bw mj;generalize ig (O i) ((b.ins.map (eP to A)).flatMap aI) (prog.cellsOf 45) M=M9 at*
   clear J;generalize FJ f to i b=bv at*
   have an:=ie;have dQ:=hV9.rq;have lJ:(out.flatMap bq).length=out.length*16:=pd (f:=bq) (sz:=16) (λ_=>rfl) out;refine bG ?_;refine ax (dL (vs:=bq bv) rfl an FC mN rfl) aB (dN t69 mN (aP rfl)) (SS ?_);refine bT (eK (cs':=(out.set v bv).flatMap bq) rfl rfl dQ (UK FI)) aB (bW t69 mN ⟨rfl,by rw[lJ];omega⟩ rfl) (bU (by simp[mT];try omega) (af ?_));refine ab (bA (i+1,wf i+1,_,nx8) (ao eH) ⟨oM,oM,?_⟩ oM);dsimp only;rw[wQ];exact hV9.put
  .have bJ:¬ i<f.blocks.length:=tn h
   have:i=f.blocks.length:=by omega
   subst this;exact⟨lo,M,nx,U,ao eH⟩
 clear an dQ U kd;rintro st ⟨lo,M,nx,U,bw⟩;refine⟨_,bw,aj ?_⟩;clear bw zc hLL;have an:=U.rg;have o1:=U.o1;have o2:=U.o2;have o3:=U.o3;refine af ?_;refine bT (dM (d:=.rs _ _ _) (cs':=headD f (.rs (g+1) 0 f.blocks.length) (cH f.ag)) rfl rfl an rfl rfl) aB (bW t24 CO ⟨rfl,aP rfl⟩ rfl) (ab (aF (ax (dL (vs:=headD f (.rs (g+1) 0 f.blocks.length) (cH f.ag)) rfl s3 a26 iS rfl) aB (dN t26 iS (aP rfl)) ?_)));have dQ:up M g (some (.cells (headD f (.rs (g+1) 0 f.blocks.length) (cH f.ag)) 26)) 2=some (.cells ef 26):=aq oG U.r2;refine bT (eK (cs':=headD f (.rs (g+1) 0 f.blocks.length) (cH f.ag)) rfl rfl dQ rfl) aB (bW t26 iS ⟨rfl,aP rfl⟩ rfl) (SS ?_);have qC:=Gw (f:=f) (to:=to) f.blocks.length;have g1:up (up M g (some (.cells (headD f (.rs (g+1) 0 f.blocks.length) (cH f.ag)) 26))) 2 (some (.cells (headD f (.rs (g+1) 0 f.blocks.length) (cH f.ag)) 26)) (g+1)=some (.cells ((jz f to f.blocks.length).flatMap bq) 69):=aq oG (aq oG U.rq)
 have g3:ig (g+1) ((jz f to f.blocks.length).flatMap bq) (prog.cellsOf 69) (up (up M g (some (.cells (headD f (.rs (g+1) 0 f.blocks.length) (cH f.ag)) 26))) 2 (some (.cells (headD f (.rs (g+1) 0 f.blocks.length) (cH f.ag)) 26))) 2=some (.cells (aG (uG f to)) 26):=by
  rw[ig,ai oG,ap];show some (Row.cells [S f.name,B f.iter,I f.args,U8 f.result,cH f.ag,cH f.aU,io f.signals,sub (cZ (g+1) _ _) (.rs (g+1) 0 f.blocks.length)] 26)=_;rw[oI,mN,drop_zero,s9 (f:=bq) (sz:=16) (λ_=>rfl),cW oG];show some (Row.cells [S f.name,B f.iter,I f.args,U8 f.result,cH f.ag,cH f.aU,io f.signals,.sl ((jz f to f.blocks.length).flatMap bq) f.blocks.length] 26)=some (Row.cells [S f.name,B f.iter,I f.args,U8 f.result,cH f.ag,cH f.aU,io f.signals,.sl ((jz f to f.blocks.length).flatMap bq) (jz f to f.blocks.length).length] 26);rw[qC]
 refine ab ⟨_,pR (l:=[(4,.rp 2 0),(5,I 0)]) g1 ⟨gk oG,rfl,aa⟩,?_⟩;exact rX (fT (cs:=aG (uG f to)) (vs:=aG (uG f to)) rfl g3 a26 iS rfl t26 (aP rfl)) rfl rfl
section
structure MX(M:Mem)(f:aO)(out:List bH):Prop where
 r1:M 1=some (.cells ef 26)
 r2:M 2=some (.cells (headD f (.rs 3 0 f.blocks.length) (cH f.ag)) 26)
 r3:M 3=some (.cells (out.flatMap bq) 69)
variable{M:Mem}{f:aO}{out:List bH}
def MX.mono{M':Mem}(h:MX M f out)(hm:∀ j,j<=3->M' j=M j):MX M' f out:=
 ⟨by rw[hm _ oG];exact h.r1,by rw[hm _ oG];exact h.r2,by rw[hm _ oG];exact h.r3⟩
def MX.qJ{p sz:Nat}{cs:List D}(h:MX M f out)(hp:3<p):MX (ig p cs sz M) f out:=
 ⟨kx h.r1 oG (.cells F3),kx h.r2 oG (.cells (Np (.rs oG) (.sl _ _))),kx h.r3 oG (xz I7 _)⟩
def MX.put{C:List bH}(h:MX M f out):MX (up M 3 (some (.cells (C.flatMap bq) 69))) f C:=
 ⟨aq oG h.r1,aq oG h.r2,ap _ _ _⟩
end
def SU{f:aO}{to:List Int}(rN:aE prog 17 [.agg (aG f)] (I (fL f)))(eE:to.length<=100000)(hf:fL f=0->JU f/\(∀ b∈f.blocks,rv b.fin=nextR b.fin)/\∀ i,mU f.blocks f.blocks.length i=cA f.blocks f.blocks.length i):
 aE prog 55 [.agg (aG f),av to] (.bu [.agg (if tH f to=0 then aG (uG f to) else ef),I (tH f to)]):=by
 have bB:∀ a∈(if tH f to=0 then aG (uG f to) else ef),Tr a:=by
  split
  .exact jG _
  .exact .cons (.s _) (.cons (.s _) (.cons (.s _) (.cons (.s _) (.cons .z (.cons .z (.cons .z (.cons .z .nil)))))))
 refine bN (fo f55) (.cons (.agg (jG _)) (.cons (cR _) .nil)) (.bu (.cons (.agg bB) fl)) ?_;clear bB;refine aF (az ?_);refine ab ⟨_,pf (i:=0) (cs:=aG f) (e:=26) rfl (l:=[(1,av to),(2,.pt (aG f)),(4,.rp 1 0),(5,I 0)]) eH (ml:=[(1,.cells ef 26)]) eH,aj ?_⟩;refine az ?_;refine ab (aM (aj (af ?_)));by_cases hc:fL f=0
 case neg=>
  have e:tH f to=fL f:=ai hc;rw[e,ai hc];generalize fL f=c at*
  refine ab (cG rfl (λ_=>aM (aj ?_)) λh=>absurd (tn h) hc);refine aX ?_;exact ab (dX (rX (fT (cs:=ef) (vs:=ef) rfl rfl a26 iS rfl t26 (aP rfl)) rfl rfl))
 let⟨hF,hnv,hav⟩:=hf hc;have e:tH f to=if lX to f.blocks.length 1 then 0 else 1:=bi hc
 rw[hc];rw[hc] at rN;refine ab (cG rfl (λh=>by simp at h) λ_=>dn (aj ?_));have ao4:=hF.ok.lim;have As:=As (to:=to) (N:=f.blocks.length) (fixed:=1) oG;refine cB ?_;refine ab (aM (aj (af ?_)));cases hp:lX to f.blocks.length 1 with
 |false=>
  rw[hp] at e;rw[e];refine ab (cG rfl (λ_=>aM (aj ?_)) λh=>by simp at h);refine az ?_;exact ab (dX (rX (fT (cs:=ef) (vs:=ef) rfl rfl a26 iS rfl t26 (aP rfl)) rfl rfl))
 |true=>
 rw[hp] at e;rw[e,bi rfl,bi rfl];refine ab (cG rfl (λh=>by simp at h) λ_=>dn (aj ?_));have hP:=Qp hp;have hlen:=hP.len;clear hp e hf rN As hc;refine az ?_;refine ab (aF (az ?_));refine cY (zx rfl rfl V.h V.h) ak ⟨oG,rfl,oG,by rw[CN];omega,V.h⟩ (SS ?_);apply bT (dM (d:=.rs _ _ _) (cs':=headD f (.rs 3 0 f.blocks.length) (cH f.ag)) rfl rfl rfl rfl rfl) aB (bW t24 CO ⟨rfl,aP rfl⟩ rfl);obtain⟨M1,zb⟩:∃ M1:Mem,M1=up (b8 [(1,.cells ef 26),(2,.cells (headD f (.rs 3 0 f.blocks.length) (cH f.ag)) 26),(3,.cells (dp f.blocks.length uh) 69)]) 3 (some (.cells ((replicate f.blocks.length jx).flatMap bq) 69)):=⟨_,rfl⟩
 refine ab ⟨⟨ay [(1,av to),(2,.pt (aG f)),(4,.rp 1 0),(5,I 0),(8,.rp 2 0)],M1,4⟩,?_,aj ?_⟩
 .rw[zb];exact(a6 (l:=[(1,av to),(2,.pt (aG f)),(4,.rp 1 0),(5,I 0),(8,.rp 2 0)]) (ml:=[(1,.cells ef 26),(2,.cells (headD f (.rs 3 0 f.blocks.length) (cH f.ag)) 26),(3,.cells (dp f.blocks.length uh) 69)]) eH eH).trans (Uc (n:=f.blocks.length) rfl)
 have C:MX M1 f (jz f to 0):=by
  rw[zb];exact⟨rfl,rfl,rfl⟩
 clear zb;have Mv:∀ b∈f.blocks,b.fin.aA.length<=10:=λb hb=>Nat.le_trans (hF.ok.ends b hb).wh oC;have sY:=sY (f:=f) rfl oG Mv (λb hb t ht=>by rw[hnv b hb] at ht;exact(hF.ok.blk b hb).to t ht)
 have zc:∀ k,k<f.blocks.length->(nF f.blocks)[k]? =some (cA f.blocks f.blocks.length k):=λk hk=>by
  rw[<- hav];simp[nF,hk]
 have A1:(nF f.blocks).length=f.blocks.length:=by simp[nF]
 generalize nF f.blocks=L at sY zc A1;refine az ?_;refine ab (aM (aF (SS ?_)))
 refine ab (cJ (λst=>∃ M nx,MX M f (jz f to f.blocks.length)/\aL prog st ⟨ay [(4,.rp 1 0),(5,I 0),(8,.rp 2 0)],M,nx⟩) (dS (α:=Nat×Mem×Nat)
  (λst=>⟨ay [(1,av to),(2,.pt (aG f)),(4,.rp 1 0),(5,I 0),(8,.rp 2 0),(9,cr L),(10,I st.1)],st.2.1,st.2.2⟩)
  (λst=>st.1<=f.blocks.length/\3<st.2.2/\MX st.2.1 f (jz f to st.1)) (λst=>f.blocks.length - st.1) (0,M1,4)
  (ao eH) ⟨Nat.zero_le _,oM,C⟩ ?_) ?_)
 .clear C sY;rintro⟨i,M,nx⟩ ⟨hi,eh,C⟩;dsimp only at hi eh C ⊢;refine bG ?_;refine ab ⟨_,rfl,λh=>?_,λh=>?_⟩
  .have al:i<f.blocks.length:=tn h
   clear h;let⟨b,hb⟩:=tS f.blocks i al
   let⟨v,hvn,hv⟩:=hP.at_ i al;have lb:=cL hb;have CQ:=hF.blk b lb;have LL:Lg to.length b.fin:=by rw[hlen];exact hF.led b lb
   have LM:=hF.AZ i b hb;have hLi:=zc i al;have wQ:=UL (to:=to) hb;rw[DH hv,eC] at wQ;have qC:=Gw (f:=f) (to:=to) i;obtain⟨x0,FI⟩:∃ x,(jz f to i)[v]? =some x:=⟨_,aV oG⟩
   generalize jz f to i=out at*
   have oW:∀ {r:Int},0<=r/\r<to.length->∃ k:Nat,∃ v,r=k/\to[k]? =some v/\bf to r=v:=λ{r} h=>by
    obtain⟨k,rfl⟩:=fc h.1;exact⟨k,_,rfl,aV oG,by simp[bf,dF,aV (show k<to.length by omega)]⟩
   refine cI (λst=>∃ M,MX M f out/\M nx=some (.cells (aR b.fin) 48)/\aL prog st ⟨ay [(1,av to),(2,.pt (aG f)),(4,.rp 1 0),(5,I 0),(8,.rp 2 0),(9,cr L),(10,I i),(11,.rp nx 0)],M,nx+1⟩) (eI ?_) ?_
   .refine eD ?_;exact bT (eK (cs':=aR b.fin) rfl rfl s3 rfl) aB (bW t48 rP ⟨rfl,aP rfl⟩ rfl) (ab ⟨_,C.mono (λj hj=>(aW _ _ oG).trans (aW _ _ oG)),ap _ _ _,ao eH⟩)
   have mj:FJ f to i b=⟨b.ins.map (eP to (cA f.blocks f.blocks.length i)),mI to b.fin⟩:=rfl
   have vq:∀ p∈cA f.blocks f.blocks.length i,0<=p/\p<to.length:=λp hp=>by
    obtain⟨c,rfl,h1,_⟩:=Gb.1 hp;omega
   have IC:=Gc (bs:=f.blocks) (λb hb=>Nat.le_trans (hF.ok.ends b hb).wh oC) f.blocks.length i;generalize cA f.blocks f.blocks.length i=A at*
   let⟨l1,l2,l3,l4,l5⟩:=LL;have hle:mI to b.fin={ b.fin with to:=if b.fin.kind≠3/\b.fin.kind≠4 then bf to b.fin.to else b.fin.to,cz:=if aC [2,8] b.fin.kind=true then bf to b.fin.cz else b.fin.cz,aA:=b.fin.aA.map (gv to),others:=if 0<=b.fin.others then bf to b.fin.others else b.fin.others }:=rfl;rw[hle] at mj;clear C hle;rintro st ⟨M,C,an,J⟩;refine⟨_,J,?_⟩;clear J;generalize b.fin=x at*
   refine cI (λst=>∃ M,MX M f out/\M nx=some (.cells (aR { x with to:=if x.kind≠3/\x.kind≠4 then bf to x.to else x.to }) 48)/\aL prog st ⟨ay [(1,av to),(2,.pt (aG f)),(4,.rp 1 0),(5,I 0),(8,.rp 2 0),(9,cr L),(10,I i),(11,.rp nx 0)],M,nx+1⟩) (aj ?_) ?_
   .have kd:(aR x).drop (0+0)=U8 x.kind::(aR x).drop 1:=rfl;refine cF ?_
    have hc:(if(x.kind !=3)=true then(x.kind !=4) else false)=decide (x.kind≠3/\x.kind≠4):=by
     by_cases h:x.kind=3<;>by_cases h':x.kind=4<;>simp[h,h']
    refine ab (au (g:=decide (x.kind≠3/\x.kind≠4)) (congrArg (λb=>D.s (.bool b)) hc) (λhp=>eI ?_) λhp=>bd ?_)
    .have hp:=of_decide_eq_true hp;let⟨kk,v,ha,hv,e⟩:=oW (l1 hp);rw[bi hp,e];have kd:(aR x).drop (0+3)=I kk::(aR x).drop 4:=by rw[<- ha];rfl
     refine cB ?_;exact bT (dM (d:=.s (.int _ _)) (cs':=aR { x with to:=v }) rfl rfl an rfl rfl) aB (bW t3 c3 ⟨rfl,aP rfl⟩ rfl) (ab ⟨_,C.mono (λj hj=>aW _ _ oG),ap _ _ _,ao eH⟩)
    .have hp:=of_decide_eq_false hp;rw[ai hp];exact⟨_,C,an,ao eH⟩
   clear C an;rintro st ⟨M,C,an,J⟩;refine⟨_,J,?_⟩;clear J l1;generalize (if x.kind≠3/\x.kind≠4 then bf to x.to else x.to)=yt at*
   refine cI (λst=>∃ M,MX M f out/\M nx=some (.cells (aR { x with to:=yt,cz:=if aC [2,8] x.kind=true then bf to x.cz else x.cz }) 48)/\aL prog st ⟨ay [(1,av to),(2,.pt (aG f)),(4,.rp 1 0),(5,I 0),(8,.rp 2 0),(9,cr L),(10,I i),(11,.rp nx 0)],M,nx+1⟩) (aj ?_) ?_
   .have kd:(aR { x with to:=yt }).drop (0+0)=U8 x.kind::(aR { x with to:=yt }).drop 1:=rfl;refine cF ?_
    have hc:(if(x.kind==2)=true then true else(x.kind==8))=aC [2,8] x.kind:=by
     simp only[aC,any_cons,any_nil,Bool.or_false];cases (x.kind==2)<;>rfl
    refine ab (au (g:=aC [2,8] x.kind) (congrArg (λb=>D.s (.bool b)) hc) (λhp=>eI ?_) λhp=>bd ?_)
    .let⟨kk,v,ha,hv,e⟩:=oW (l2 hp);rw[bi hp,e];have kd:(aR { x with to:=yt }).drop (0+4)=I kk::(aR { x with to:=yt }).drop 5:=by rw[<- ha];rfl
     refine cB ?_;exact bT (dM (d:=.s (.int _ _)) (cs':=aR { x with to:=yt,cz:=v }) rfl rfl an rfl rfl) aB (bW t3 c3 ⟨rfl,aP rfl⟩ rfl) (ab ⟨_,C.mono (λj hj=>aW _ _ oG),ap _ _ _,ao eH⟩)
    .rw[ai (by rw[hp];simp)];exact⟨_,C,an,ao eH⟩
   clear C an;rintro st ⟨M,C,an,J⟩;refine⟨_,J,aF ?_⟩;clear J l2;generalize (if aC [2,8] x.kind=true then bf to x.cz else x.cz)=ye at*
   refine SS ?_;refine ab ⟨_,.mz _ _ _ 12 82 rfl,aM (aF ?_)⟩;refine SS ?_
   refine ab (cJ (λst=>∃ r M aw,nx<r/\r<aw/\MX M f out/\M nx=some (.cells (aR { x with to:=yt,cz:=ye }) 48)/\M r=some (.cells ((x.aA.map (gv to)).flatMap cK) 82)/\aL prog st ⟨ay [(1,av to),(2,.pt (aG f)),(4,.rp 1 0),(5,I 0),(8,.rp 2 0),(9,cr L),(10,I i),(11,.rp nx 0),(12,.rs r 0 x.aA.length)],M,aw⟩) (dS (α:=Nat×Nat×Mem×Nat)
    (λst=>⟨ay [(1,av to),(2,.pt (aG f)),(4,.rp 1 0),(5,I 0),(8,.rp 2 0),(9,cr L),(10,I i),(11,.rp nx 0),(12,.rs st.2.1 0 st.1),(13,I st.1)],st.2.2.1,st.2.2.2⟩)
    (λst=>st.1<=x.aA.length/\nx<st.2.1/\st.2.1<st.2.2.2/\MX st.2.2.1 f out/\st.2.2.1 nx=some (.cells (aR { x with to:=yt,cz:=ye }) 48)/\st.2.2.1 st.2.1=some (.cells (((x.aA.take st.1).map (gv to)).flatMap cK) 82)) (λst=>x.aA.length - st.1) (0,nx+1,_,_)
    (ao eH) ⟨Nat.zero_le _,Nat.lt_succ_self _,Nat.lt_succ_self _,C.mono (λj hj=>aW _ _ oG),aq oG an,ap _ _ _⟩ ?_) ?_)
   .clear C an;rintro⟨k,r,M,aw⟩ ⟨hk,pN,tQ,C,an,O⟩;dsimp only at hk pN tQ C an O ⊢;have kd:(aR { x with to:=yt,cz:=ye }).drop (0+13)=lg x.aA::[I x.others]:=rfl;refine bG ?_;refine ab ⟨_,rfl,λh=>?_,λh=>?_⟩
    .have al:k<x.aA.length:=tn h
     clear h;let⟨u,hu⟩:=tS x.aA k al
     let⟨kk,v,ha,hv,e⟩:=oW (l3 u (cL hu))
     have gi:((x.aA.take (k+1)).map (gv to)).flatMap cK=((x.aA.take k).map (gv to)).flatMap cK++cK ⟨u.name,v⟩:=by
      rw[take_add_one,hu,map_append,flatMap_append, <- e];simp[gv]
     have jo:(((x.aA.take k).map (gv to)).flatMap cK).length=k*2:=by
      rw[pd (sz:=2) (λ_=>rfl),length_map,length_take,Nat.min_eq_left hk]
     generalize ((x.aA.take k).map (gv to)).flatMap cK=ds at*
     let⟨un,ut⟩:=u;dsimp only at ha gi;subst ha;refine r8 iB (bg ?_);refine bg ?_;refine gf (fW rfl (aq oG O) rfl SC FA (gV s3 rfl) rfl) aB ⟨HN,rfl,aP rfl,oC,by rw[jo];omega,by unfold maxLen;omega,by rw[SD];omega,by simp;omega⟩ (SS ?_);refine bU (by simp[mT];try omega) (az ?_);refine ab (bA (k+1,aw+1,_,_) (ao eH) ⟨oM,oM,Nat.lt_succ_self _,C.mono (λj hj=>(aW _ _ oG).trans ((aW _ _ oG).trans (aW _ _ oG))),aq oG (aq oG (aq oG an)),?_⟩ oM);dsimp only;rw[gi];exact ap _ _ _
    .have bJ:¬ k<x.aA.length:=tn h
     have:k=x.aA.length:=by omega
     subst this;rw[take_length] at O;exact⟨r,M,aw,pN,tQ,C,an,O,ao eH⟩
   clear C an l3;rintro st ⟨r,M,aw,pN,tQ,C,an,O,J⟩
   have hwE:sub (cZ r ((x.aA.map (gv to)).flatMap cK) (prog.cellsOf 82)) (.rs r 0 x.aA.length)=lg (x.aA.map (gv to)):=by
    rw[oI,FA,drop_zero,s9 (f:=cK) (sz:=2) (λ_=>rfl),cW oS];show D.sl _ _=D.sl _ (x.aA.map (gv to)).length;rw[length_map]
   have X:=C.qJ (p:=r) (sz:=prog.cellsOf 82) (cs:=(x.aA.map (gv to)).flatMap cK) oG;have dQ:=kx (i:=r) (sz:=prog.cellsOf 82) (cs:=(x.aA.map (gv to)).flatMap cK) an oG (.cells (Gi _));refine⟨_,J.trans (pR (l:=[(1,av to),(2,.pt (aG f)),(4,.rp 1 0),(5,I 0),(8,.rp 2 0),(9,cr L),(10,I i),(11,.rp nx 0),(12,lg (x.aA.map (gv to)))]) O ⟨rfl,rfl,gk oG,rfl,gk oG,rfl,rfl,gk oG,hwE,aa⟩),?_⟩;clear J O hwE C an;generalize ig r ((x.aA.map (gv to)).flatMap cK) (prog.cellsOf 82) M=M2 at X dQ;generalize x.aA.map (gv to)=yw at*
   refine cI (λst=>∃ M,MX M f out/\M nx=some (.cells (aR { x with to:=yt,cz:=ye,aA:=yw }) 48)/\aL prog st ⟨ay [(1,av to),(2,.pt (aG f)),(4,.rp 1 0),(5,I 0),(8,.rp 2 0),(9,cr L),(10,I i),(11,.rp nx 0)],M,aw⟩) (eI ?_) ?_
   .have an:=dQ;refine af ?_;exact bT (dM (d:=.sl _ _) (cs':=aR { x with to:=yt,cz:=ye,aA:=yw }) rfl rfl dQ rfl rfl) aB (bW t46 SL ⟨rfl,aP rfl⟩ rfl) (ab ⟨_,X.mono (λj hj=>aW _ _ oG),ap _ _ _,ao eH⟩)
   clear X dQ;rintro st ⟨M,C,an,J⟩;refine⟨_,J,?_⟩;clear J;refine cI (λst=>∃ M,MX M f out/\M nx=some (.cells (aR { x with to:=yt,cz:=ye,aA:=yw,others:=if 0<=x.others then bf to x.others else x.others }) 48)/\aL prog st ⟨ay [(1,av to),(2,.pt (aG f)),(4,.rp 1 0),(5,I 0),(8,.rp 2 0),(9,cr L),(10,I i),(11,.rp nx 0)],M,aw⟩) (aj ?_) ?_
   .have kd:(aR { x with to:=yt,cz:=ye,aA:=yw }).drop (0+14)=I x.others::[]:=rfl;refine az ?_;refine ab (au rfl (λhp=>eI ?_) λhp=>bd ?_)
    .have hp:0<=x.others:=tn hp
     let⟨kk,v,ha,hv,e⟩:=oW ⟨hp,l4 hp⟩;rw[bi hp,e];have kd:(aR { x with to:=yt,cz:=ye,aA:=yw }).drop (0+14)=I kk::[]:=by rw[<- ha];rfl
     refine cB ?_;exact bT (dM (d:=.s (.int _ _)) (cs':=aR { x with to:=yt,cz:=ye,aA:=yw,others:=v }) rfl rfl an rfl rfl) aB (bW t3 c3 ⟨rfl,aP rfl⟩ rfl) (ab ⟨_,C.mono (λj hj=>aW _ _ oG),ap _ _ _,ao eH⟩)
    .have hp:¬ 0<=x.others:=tn hp
     rw[ai hp];exact⟨_,C,an,ao eH⟩
   clear C an;rintro st ⟨M,C,an,J⟩;refine⟨_,J,aF ?_⟩;clear J l4;generalize (if 0<=x.others then bf to x.others else x.others)=yo at*
   generalize ({ x with to:=yt,cz:=ye,aA:=yw,others:=yo }:Abs.End)=y' at*
   have atq:nx<aw:=by omega
   refine SS ?_;refine ab ⟨_,.mz _ _ _ 14 45 rfl,aM (aF ?_)⟩;refine SS ?_;have pL:=CQ.ins
   refine ab (cJ (λst=>∃ r M U,aw<=r/\r<U/\MX M f out/\M nx=some (.cells (aR y') 48)/\M r=some (.cells ((b.ins.map (eP to A)).flatMap aI) 45)/\aL prog st ⟨ay [(1,av to),(2,.pt (aG f)),(4,.rp 1 0),(5,I 0),(8,.rp 2 0),(9,cr L),(10,I i),(11,.rp nx 0),(14,.rs r 0 b.ins.length)],M,U⟩) (dS (α:=Nat×Nat×Mem×Nat)
    (λst=>⟨ay [(1,av to),(2,.pt (aG f)),(4,.rp 1 0),(5,I 0),(8,.rp 2 0),(9,cr L),(10,I i),(11,.rp nx 0),(14,.rs st.2.1 0 st.1),(15,I st.1)],st.2.2.1,st.2.2.2⟩)
    (λst=>st.1<=b.ins.length/\aw<=st.2.1/\st.2.1<st.2.2.2/\MX st.2.2.1 f out/\st.2.2.1 nx=some (.cells (aR y') 48)/\st.2.2.1 st.2.1=some (.cells (((b.ins.take st.1).map (eP to A)).flatMap aI) 45)) (λst=>b.ins.length - st.1) (0,aw,_,_)
    (ao eH) ⟨Nat.zero_le _,bK _,Nat.lt_succ_self _,C.mono (λj hj=>aW _ _ oG),aq oG an,ap _ _ _⟩ ?_) ?_)
   .clear C an mj wQ;rintro⟨k,r,M,U⟩ ⟨hk,pN,tQ,C,an,O⟩;dsimp only at hk pN tQ C an O ⊢;refine bg ?_;refine ab ⟨_,rfl,λh=>?_,λh=>?_⟩
    .have jo:k<b.ins.length:=tn h
     clear h;let⟨y,hy⟩:=tS b.ins k jo
     have gi:((b.ins.take (k+1)).map (eP to A)).flatMap aI=((b.ins.take k).map (eP to A)).flatMap aI++aI (eP to A y):=by
      rw[take_add_one,hy,map_append,flatMap_append];simp
     have CR:(((b.ins.take k).map (eP to A)).flatMap aI).length=k*6:=by
      rw[pd (sz:=6) (λ_=>rfl),length_map,length_take,Nat.min_eq_left hk]
     generalize ((b.ins.take k).map (eP to A)).flatMap aI=ds at*
     refine cI (λst=>∃ M,MX M f out/\M nx=some (.cells (aR y') 48)/\M r=some (.cells ds 45)/\M U=some (.cells (aI y) 45)/\aL prog st ⟨ay [(1,av to),(2,.pt (aG f)),(4,.rp 1 0),(5,I 0),(8,.rp 2 0),(9,cr L),(10,I i),(11,.rp nx 0),(14,.rs r 0 k),(15,I k),(16,.rp U 0)],M,U+1⟩) (eI ?_) ?_
     .refine cF ?_;refine af ?_;exact bT (eK (cs':=aI y) rfl rfl s3 rfl) aB (bW t45 kG ⟨rfl,aP rfl⟩ rfl) (ab ⟨_,C.mono (λj hj=>(aW _ _ oG).trans (aW _ _ oG)),aq oG (aq oG an),aq oG (aq oG O),ap _ _ _,ao eH⟩)
     clear C an O;rintro st ⟨M,C,wk,O,an,J⟩;refine⟨_,J,?_⟩;clear J;refine cI (λst=>∃ M,MX M f out/\M nx=some (.cells (aR y') 48)/\M r=some (.cells ds 45)/\M U=some (.cells (aI (eP to A y)) 45)/\aL prog st ⟨ay [(1,av to),(2,.pt (aG f)),(4,.rp 1 0),(5,I 0),(8,.rp 2 0),(9,cr L),(10,I i),(11,.rp nx 0),(14,.rs r 0 k),(15,I k),(16,.rp U 0)],M,U+1⟩) (aj ?_) ?_
     .have kd:(aI y).drop (0+0)=U8 y.op::(aI y).drop 1:=rfl;refine az ?_;refine ab (au rfl (λhp=>GD (ij [(5,6),(5,7)]) ?_) λhp=>bd ?_)
      .have dm:y.op=19:=tn hp
       have zd:=(LM k y hy dm).1;have uF:=uF (l:=A) (to:=to) oG vq;have RF:=RF (c:=A.map (bf to)) (l:=y.args) (by rw[length_map];omega) (by rw[length_map];omega);have kd:(aI y).drop (0+5)=av y.args::[]:=rfl;refine bg ?_;refine SS ?_;exact bT (dM (d:=.sl _ _) (cs':=aI (eP to A y)) rfl rfl an rfl (by rw[eP,bi dm];rfl)) aB (bW t35 jC ⟨rfl,aP rfl⟩ rfl) (bU (by simp[mT];try omega) ⟨_,C.mono (λj hj=>aW _ _ oG),aq oG wk,aq oG O,ap _ _ _,ao eH⟩)
      .have dm:¬ y.op=19:=tn hp
       have e:eP to A y=y:=ai dm;rw[e];exact⟨_,C,wk,O,an,ao eH⟩
     clear C wk O an;rintro st ⟨M,C,wk,O,an,J⟩;refine⟨_,J,gE ?_⟩;clear J;generalize eP to A y=y2 at*
     refine SS ?_;refine ax (dL (vs:=aI y2) rfl an a45 kG rfl) aB (dN t45 kG (aP rfl)) (SS ?_);refine gf (fW rfl (aq oG O) rfl Mp kG (gV s3 rfl) rfl) aB ⟨LF,rfl,aP rfl,oC,by rw[CR];omega,by unfold maxLen;omega,by rw[Mq];omega,by simp;omega⟩ (SS ?_);refine ab (az ?_);refine ab (bA (k+1,U+1+1,_,_) (ao eH) ⟨oM,oM,Nat.lt_succ_self _,C.mono (λj hj=>(aW _ _ oG).trans ((aW _ _ oG).trans (aW _ _ oG))),aq oG (aq oG (aq oG wk)),?_⟩ oM);dsimp only;rw[gi];exact ap _ _ _
    .have bJ:¬ k<b.ins.length:=tn h
     have:k=b.ins.length:=by omega
     subst this;rw[take_length] at O;exact⟨r,M,U,pN,tQ,C,an,O,ao eH⟩
   clear C an;rintro st ⟨r2,M,U,pN,tQ,C,an,O,J⟩
   have hiE:sub (cZ r2 ((b.ins.map (eP to A)).flatMap aI) (prog.cellsOf 45)) (.rs r2 0 b.ins.length)=eV (b.ins.map (eP to A)):=by
    rw[oI,kG,drop_zero,s9 (f:=aI) (sz:=6) (λ_=>rfl),cW oS];show D.sl _ _=D.sl _ (b.ins.map (eP to A)).length;rw[length_map]
   have X:=C.qJ (p:=r2) (sz:=prog.cellsOf 45) (cs:=(b.ins.map (eP to A)).flatMap aI) oG;have dQ:=kx (i:=r2) (sz:=prog.cellsOf 45) (cs:=(b.ins.map (eP to A)).flatMap aI) an oG (.cells (Gi _));refine⟨_,J.trans (pR (l:=[(1,av to),(2,.pt (aG f)),(4,.rp 1 0),(5,I 0),(8,.rp 2 0),(9,cr L),(10,I i),(11,.rp nx 0),(14,eV (b.ins.map (eP to A)))]) O ⟨rfl,rfl,gk oG,rfl,gk oG,rfl,rfl,gk oG,hiE,aa⟩),r8 iB ?_⟩;clear J O hiE C an;generalize ig r2 ((b.ins.map (eP to A)).flatMap aI) (prog.cellsOf 45) M=M3 at X dQ;generalize b.ins.map (eP to A)=il at*
   rw[mj] at wQ;have an:=X.r2;have kd:(headD f (.rs 3 0 f.blocks.length) (cH f.ag)).drop (0+7)=.rs 3 0 f.blocks.length::[]:=rfl;have wk:=X.r3;have lJ:(out.flatMap bq).length=out.length*16:=pd (f:=bq) (sz:=16) (λ_=>rfl) out;refine eD ?_;refine ax (dL (vs:=aR y') rfl dQ FG rP rfl) aB (dN t48 rP (aP rfl)) (ax (Gp (cs:=bq ⟨il,y'⟩) u69 aav z69 rfl rfl) aB ⟨t69,aaw⟩ (ax (xL rfl rfl wk V.h V.h) ak ⟨V.h,oG⟩ (bT (eK (cs':=(out.set v ⟨il,y'⟩).flatMap bq) rfl rfl wk (UK FI)) aB (bW t69 mN ⟨rfl,by rw[lJ];omega⟩ rfl) (bU (by simp[mT];try omega) (az ?_)))));refine ab (bA (i+1,_,U) (ao eH) ⟨oM,oM,?_⟩ oM);dsimp only;rw[wQ];exact X.put
  .have bJ:¬ i<f.blocks.length:=tn h
   have:i=f.blocks.length:=by omega
   subst this;exact⟨M,nx,C,ao eH⟩
 rintro st ⟨M,nx,C,J⟩;refine⟨_,J,aF ?_⟩;clear J;have an:=C.r2;apply ax (dL (vs:=headD f (.rs 3 0 f.blocks.length) (cH f.ag)) rfl an a26 iS rfl) aB (dN t26 iS (aP rfl));have dQ:=C.r1;refine bT (eK (cs':=headD f (.rs 3 0 f.blocks.length) (cH f.ag)) rfl rfl dQ rfl) aB (bW t26 iS ⟨rfl,aP rfl⟩ rfl) (SS ?_);have qC:=Gw (f:=f) (to:=to) f.blocks.length;have g1:up M 1 (some (.cells (headD f (.rs 3 0 f.blocks.length) (cH f.ag)) 26)) 3=some (.cells ((jz f to f.blocks.length).flatMap bq) 69):=aq oG C.r3
 have g3:ig 3 ((jz f to f.blocks.length).flatMap bq) (prog.cellsOf 69) (up M 1 (some (.cells (headD f (.rs 3 0 f.blocks.length) (cH f.ag)) 26))) 1=some (.cells (aG (uG f to)) 26):=by
  rw[ig,ai oG,ap];show some (Row.cells [S f.name,B f.iter,I f.args,U8 f.result,cH f.ag,cH f.aU,io f.signals,sub (cZ 3 _ _) (.rs 3 0 f.blocks.length)] 26)=_;rw[oI,mN,drop_zero,s9 (f:=bq) (sz:=16) (λ_=>rfl),cW oG];show some (Row.cells [S f.name,B f.iter,I f.args,U8 f.result,cH f.ag,cH f.aU,io f.signals,.sl ((jz f to f.blocks.length).flatMap bq) f.blocks.length] 26)=some (Row.cells [S f.name,B f.iter,I f.args,U8 f.result,cH f.ag,cH f.aU,io f.signals,.sl ((jz f to f.blocks.length).flatMap bq) (jz f to f.blocks.length).length] 26);rw[qC]
 refine ab ⟨_,pR (l:=[(4,.rp 1 0),(5,I 0)]) g1 ⟨gk oG,rfl,aa⟩,?_⟩;exact rX (fT (cs:=aG (uG f to)) (vs:=aG (uG f to)) rfl g3 a26 iS rfl t26 (aP rfl)) rfl rfl
def ajl{xs ys:List D}(h:xg xs ys):Wk (.agg xs) (.agg ys):=λF β w v hv=>by
 let⟨hl,C⟩:=JV h;cases hv with
 |agg _ vs mb h'=>
  refine .agg ys vs oG λk d v hd hv=>?_;have hk:k<xs.length:=by have:=(bO.1 hd).1;omega
  exact C k xs[k] d (aV hk) hd F β w v (h' k xs[k] v (aV hk) hv)
def ajm{xs ys:List D}(h:xg xs ys):Wk (.bu xs) (.bu ys):=λF β w v hv=>by
 let⟨hl,C⟩:=JV h;cases hv with
 |bu _ vs mb h'=>
  refine .bu ys vs oG λk d v hd hv=>?_;have hk:k<xs.length:=by have:=(bO.1 hd).1;omega
  exact C k xs[k] d (aV hk) hd F β w v (h' k xs[k] v (aV hk) hv)
def ae1{P:Program}{f:FuncId}{args:List D}{r r':D}(h:aE P f args r)(O:Wk r r'):aE P f args r':=
 ⟨h.1,h.2.1,λF w vs J hR=>(h.2.2 F w vs J hR).mono λ_ _ ⟨v,h1,h2,C⟩=>⟨v,h1,O _ _ _ _ h2,C⟩⟩
def zF:aO:=⟨⟨#[]⟩,false,0,0,[],[],[],[]⟩
def aly{e:Int}:Wk (.bu [.agg ef,I e]) (.bu [.agg (aG zF),I e]):=
 ajm ⟨ajl ⟨lT _,lT _,lT _,lT _,yK,yK,yK,yK,aa⟩,lT _,aa⟩
def ae2{f:aO}(h:nK f=true):f.ag.length<=40/\f.aU.length<=10/\f.blocks.length<=30:=by
 rw[nK,aH] at h;have h:=h.1;unfold EM at h;simp[Bool.not_eq_true',Bool.or_eq_false_iff,decide_eq_false_iff_not] at h;omega
def Ca(f:aO)(to:List Int):aO:=if qq f to=0 then Ar f to else zF
def EP(f:aO)(to:List Int):aO:=if tH f to=0 then uG f to else zF
def KJ{f g:aO}{F:FuncId}{args:List D}{e:Int}(h:aE prog F args (.bu [.agg (if e=0 then aG f else ef),I e]))(hg:g=if e=0 then f else zF):aE prog F args (.bu [.agg (aG g),I e]):=by
 subst hg;by_cases he:e=0
 .rw[bi he] at h ⊢;exact h
 .rw[ai he] at h ⊢;exact ae1 h aly
def VO{f:aO}(h1:f.ag.length<=1000000)(h2:f.aU.length<=1000000):aE prog 52 [.agg (aG f),.agg (aG f)] (B true):=by
 have:=IA (f:=f) (g:=f) h1 h2 h1 h2
 rwa[NO.2 rfl] at this
def k11{f:aO}{rs bs:List Int}(hs:Et f):aE prog 11 [.agg (aG f),av rs,av bs] (B true):=by
 refine bN (fo f11) (.cons (.agg (jG f)) (.cons (cR _) (.cons (cR _) .nil))) (Tr.s _) ?_;have AY:=AY;have wX:=wX (f:=f);refine aF (af ?_);refine ab (bF (cE [(0,aG f,26)] eH (l:=[(1,av rs),(2,av bs),(3,.pt (aG f))]) eH) (aM (aj ?_)));refine bg ?_;refine aX ?_;refine ab (cG rfl (λh=>aM (aj ?_)) λh=>dn ?_)
 .refine af ?_;exact ab (dX (aD rfl rfl))
 have hx:nK f=true/\rs.length<=50/\bs.length<=50:=by
  revert h;cases nK f<;>(try split)<;>(try split)<;>intro h<;>simp_all<;>omega
 let⟨C,h1,h2⟩:=hx;have hw:=VM C;let⟨t1,t2,t3⟩:=ae2 C;have J:fL f=0->z8 f:=alz C;have X:fL f=0->JU f:=aip C;have O:=UN C;have SE:=KJ (g:=Ca f rs) (SE (f:=f) (to:=rs) oG (λh=>(J h).ia O) (.inl oG)) rfl
 have SI:aE prog 53 [.agg (aG f),av rs] (.bu [.agg (aG (Ca f rs)),I (qq f rs)]):=by
  apply KJ (f:=EO f rs) (SI (f:=f) (to:=rs) (rN hs hw) oG λh=>(J h).FK O);unfold Ca;by_cases he:qq f rs=0
  .rw[bi he,bi he];unfold qq at he;split at he
   .rename_i hc;split at he
    .rename_i hp;exact(J hc).eq hp
    .cases he
   .rename_i hc;exact absurd he hc
  .rw[ai he,ai he]
 have SP:=KJ (g:=EP f bs) (SP (f:=f) (to:=bs) oG X (.inl oG) oG oG) rfl;have SU:=KJ (g:=EP f bs) (SU (f:=f) (to:=bs) (rN hs hw) oG λh=>⟨X h,λb hb=>((Qq (JC h)).ed b hb).2,λi=>congrFun (NP (TR (JC h)) _) i⟩) rfl
 have ka:aE prog 52 [.agg (aG (Ca f rs)),.agg (aG (Ca f rs))] (B true):=by
  refine VO ?_ ?_<;>(unfold Ca;split)
  .show(putAt ..).length<=_;rw[vD];omega
  .exact Nat.zero_le _
  .show f.aU.length<=_;omega
  .exact Nat.zero_le _
 have kb:aE prog 52 [.agg (aG (EP f bs)),.agg (aG (EP f bs))] (B true):=by
  refine VO ?_ ?_<;>(unfold EP;split)
  .show f.ag.length<=_;omega
  .exact Nat.zero_le _
  .show f.aU.length<=_;omega
  .exact Nat.zero_le _
 generalize Ca f rs=g at*
 generalize EP f bs=g' at*
 generalize qq f rs=e at*
 generalize tH f bs=e' at*
 have R':(e==e)=true:=beq_self_eq_true _;have U:(e'==e')=true:=beq_self_eq_true _;clear J X O hw hs h h1 h2 wX;refine ws (bg ?_);refine er (bg ?_);refine er (bg ?_);refine er (bg ?_);apply er;have IA:=ka;refine bg ?_;refine SS ?_;rw[R'];refine aX ?_;have IA:=kb;refine cB ?_;rw[U];refine af ?_;exact ab (aD rfl rfl)
end Go.Abs
end
