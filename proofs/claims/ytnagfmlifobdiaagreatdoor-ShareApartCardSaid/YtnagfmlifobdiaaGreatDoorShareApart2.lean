/- Part 2. -/
import Derived.Test.YtnagfmlifobdiaaGreatDoorShareApart1
import Derived.ChangeKeysEq
import Derived.OrdersIn
import Derived.ProofKit
set_option linter.all false
set_option maxHeartbeats 0
set_option maxRecDepth 10000
namespace Go.Abs
open List
section
variable{cs:List D}{x:D}{p:Prop}{rd:List Nat}{k:Nat}{news:List D}{c:List Value}{vx:Value}
section
variable{P:Program}{F:Nat->Prop}{m:Mem}{nx:Nat}{β:aZ}{w w':World}
def Rd.Jr{b o:Nat}(h:Rd F β w b o cs):∃ c:List Value,Rl F β w cs c/\∀ (j:Nat) (u:Value),c[j]? =some u->w.cell? ((⟨b,o,none⟩:Addr).add j)=some u:=by
 let⟨us,h1,h2⟩:=h;refine⟨(range cs.length).map us,⟨oS,λk d u hk hu=>?_⟩,λj u hu=>?_⟩
 .have ao:k<cs.length:=(bQ.1 hk).1;simp[ao] at hu;subst hu;exact⟨h2 k d hk,(h1 k ao).2⟩
 .have ao:j<cs.length:=by
   have:=(bQ.1 hu).1;simpa using this
  simp[ao] at hu;subst hu;rw[Addr.add_lit];exact(h1 j ao).1
def ahG(hm:bc P F m β w){sz:Nat}{v:Value}(hx:R F β w x v)(h:mS m sz x=some (p,rd,k,news))(hp:p)
 (J:∀ i off n cs e,x=.rs i off n->m i=some (.cells cs e)->n=0\/True):
 ∃ a cap c,v=.slice a k cap/\Rl F β w news c/\c.length=k*sz/\(∀ ad,a=some ad->∀ (j:Nat) (u:Value),c[j]? =some u->w.cell? (ad.add j)=some u)/\(a=none->c=[]/\k*sz=0):=by
 cases x with
 |sl es n=>
  simp only[mS,bg,dp] at h;obtain⟨rfl,rfl,rfl,rfl⟩:=h;rcases hx.Bx with⟨rfl,rfl,a,cap,rfl⟩|⟨b,o,cap,rfl,_,_,_,_,_,M⟩
  .exact⟨a,cap,[],rfl,⟨oS,oS⟩,oS,oS,oS⟩
  .let⟨c,h1,h2⟩:=(M.take (n*sz)).Jr;refine⟨_,cap,c,rfl,h1,?_,λad C=>by cases C;exact h2,oS⟩;rw[h1.1,length_take];exact Nat.min_eq_left hp
 |z=>
  simp only[mS,bg,dp] at h;obtain⟨rfl,rfl,rfl,rfl⟩:=h;obtain⟨a,rfl⟩:=hx.F1;exact⟨a,0,[],rfl,⟨oS,oS⟩,oS,oS,oS⟩
 |rs i off n=>
  simp[mS] at h;cases hi:m i with
  |none=>simp[hi] at h
  |some r=>
  cases r with
  |map es=>simp[hi] at h
  |raw es=>simp[hi] at h
  |bs u x T=>simp[hi] at h
  |lp k=>simp[hi] at h
  |lq f r=>simp[hi] at h
  |cells cs e=>
  simp only[hi,bg,dp] at h;obtain⟨rfl,rfl,rfl,rfl⟩:=h;rcases hx.FK hm hi with⟨rfl,rfl,rfl,lK,a,rfl⟩|⟨b,o,room,hβ,aF,U⟩
  .exact⟨a,0,[],rfl,⟨oS,oS⟩,oS,oS,oS⟩
  .rcases U with⟨rfl,a,rfl⟩|⟨cap,rfl,X,g2,g3,g4⟩
   .exact⟨a,0,[],rfl,⟨oS,oS⟩,oS,oS,oS⟩
   .let⟨c,h1,h2⟩:=((aF.rd.1.drop off).take (n*sz)).Jr;refine⟨_,cap,c,rfl,h1,?_,λad C=>by cases C;exact h2,oS⟩;rw[h1.1];simp;omega
 |_=>simp[mS] at h
def agp(t ty e:TypeId)(i:TypeInfo)(ht:P.underlying t=some (.slice e))(hi:P.info? e=some i)(a0 a:Option Addr)(n cap c:Nat)(C:n<=cap):
 (Builtin.append_ #[t,t] ty #[.slice a0 n cap,.slice a 0 c]).run P w=.ok (.slice a0 n cap) w:=by
 cases a0<;>cases a<;>simp[Builtin.append_,run_underlying ht,sizeOf,typeInfo,hi,Builtin.lenOf,C,Builtin.firstCells,loadCells,loadCellsFrom,storeCells]
def ags(t ty e:TypeId)(i:TypeInfo)(ht:P.underlying t=some (.slice e))(hi:P.info? e=some i)(g o n cap:Nat)(cur:Array Value)(hg:w.heap[g]? =some (.cells cur e (0,0)))
 (a:Addr) (k c:Nat) (news:List Value) (hl:news.length=k*i.size) (M:∀ j u,news[j]? =some u->w.cell? (a.add j)=some u) (h1:∀ u∈news,u.oneCell'=true) (U:n+k<=cap) (J:o+n*i.size+news.length<=cur.size):
 (Builtin.append_ #[t,t] ty #[.slice (some ⟨g,o,none⟩) n cap,.slice (some a) k c]).run P w=
  .ok (.slice (some ⟨g,o,none⟩) (n+k) cap) (w.setRow g (cur.toList.take (o+n*i.size)++news++cur.toList.drop (o+n*i.size+news.length)).toArray):=by
 have hf:=run_firstCells_some (P:=P) w i.size k a k c news hl M;have C:=run_storeCells_at P g (o+n*i.size) e news 0 cur w hg (s0 J) h1;simp[Nat.add_zero] at C;simp[Builtin.append_,run_underlying ht,sizeOf,typeInfo,hi,Builtin.lenOf,U,hf,Addr.add_lit,C]
def agt(t ty e:TypeId)(i:TypeInfo)(z:Value)(ht:P.underlying t=some (.slice e))(hi:P.info? e=some i)(hz:i.zero=some z)(a0:Option Addr)(n cap:Nat)(jJ:List Value)(jj:jJ.length=n*i.size)
 (holds:∀ ad,a0=some ad->∀ j v,jJ[j]? =some v->w.cell? (ad.add j)=some v) (h0:a0=none->n=0/\cap=0) (M:n<=cap)
 (a:Addr) (k c:Nat) (news:List Value) (hl:news.length=k*i.size) (J:∀ j v,news[j]? =some v->w.cell? (a.add j)=some v) (hg:cap<n+k) (C:n+k<=maxLen) (hb:(n+k)*i.bytes<=140737488355328):
 (Builtin.append_ #[t,t] ty #[.slice a0 n cap,.slice (some a) k c]).run P w=
  .ok (.slice (some ⟨w.heap.size,0,none⟩) (n+k) (grownCap w (n+k) cap e)) (w.drew.alloc (.cells (jJ.toArray++news.toArray++Builtin.zeroCells z.cells (grownCap w (n+k) cap e - (n+k))) e)):=by
 simp[maxLen] at C;cases a0 with
 |some b=>exact run_append_grow w t ty e i z ht hi hz b n cap jJ jj (holds b rfl) a k c news hl J hg oG (growslice_fits oG hb)
 |none=>
  obtain⟨rfl,rfl⟩:=h0 rfl;have:jJ=[]:=eq_nil_of_length_eq_zero (s0 jj);subst this;have:=run_append_nil (P:=P) w t ty e i z ht hi hz a k c news hl J oG oG (by simp at hb;omega);simpa using this
def agC(z:Array Value)(n:Nat):(Builtin.zeroCells z n).toList.length=n*z.size:=by simp[Builtin.zeroCells]
def Rl.append{C J:List D}{M U:List Value}(h1:Rl F β w C M)(h2:Rl F β w J U):Rl F β w (C++J) (M++U):=by
 refine⟨by simp[h1.1,h2.1],λk d u hk hu=>?_⟩;by_cases ao:k<C.length
 .rw[getElem?_append_left ao] at hk;rw[getElem?_append_left (by rw[h1.1];exact ao)] at hu;exact h1.2 k d u hk hu
 .rw[getElem?_append_right oG] at hk;rw[getElem?_append_right (by rw[h1.1];omega),h1.1] at hu;exact h2.2 _ d u hk hu
def Rl.step{β':aZ}(h:Rl F β w cs c)(hs:Step β w β' w'):Rl F β' w' cs c:=⟨h.1,λk d u hk hu=>⟨(h.2 k d u hk hu).1.step hs,(h.2 k d u hk hu).2⟩⟩
def ai0(hm:bc P F m β w)(hn:β nx=none){e:TypeId}{z:Value}(U:z.cells.size=P.cellsOf e)(hc:Rl F β w cs c){n N:Nat}(hlen:cs.length=n*P.cellsOf e)(M:n<=N)(eJ:N<=maxLen):
 ∃ β',bc P F (up m nx (some (.cells cs e))) β' (w.alloc (.cells (c.toArray++Builtin.zeroCells z.cells (N - n)) e))/\Step β w β' (w.alloc (.cells (c.toArray++Builtin.zeroCells z.cells (N - n)) e))/\
  R F β' (w.alloc (.cells (c.toArray++Builtin.zeroCells z.cells (N - n)) e)) (.rs nx 0 n) (.slice (some ⟨w.heap.size,0,none⟩) n N)/\∀ i,i≠nx->β' i=β i:=by
 let⟨h2,C⟩:=Ik hm hn (cs:=cs) (c:=c) (e:=e) hc.1 hc.2 (Builtin.zeroCells z.cells (N - n)).toList
 have J:(c++(Builtin.zeroCells z.cells (N - n)).toList).toArray=c.toArray++Builtin.zeroCells z.cells (N - n):=by
  apply Array.ext';simp
 rw[J] at h2 C;have e2:n*P.cellsOf e+(N - n)*P.cellsOf e=N*P.cellsOf e:=by rw[<- Nat.add_mul];congr 1;omega
 have e3:=agC z.cells (N - n);rw[U] at e3;refine⟨_,h2,C,?_,λi hi=>aV _ _ hi⟩;exact .rs nx 0 n N w.heap.size 0 _ _ _ r9 M eJ oG oG
def aam(hm:bc P F m β w)(hn:β nx=none)(e:TypeId):bc P F (up m nx (some (.cells [] e))) (up β nx (some .nil)) w/\Step β w (up β nx (some .nil)) w:=by
 have hs:Step β w (up β nx (some .nil)) w:=by
  refine⟨bY _,λb hb hf=>⟨rfl,λi q hq=>?_⟩,λi q hq=>.inl ?_,⟨rfl,rfl⟩,λ_ _ _ _=>sx rfl⟩
  .by_cases hi:i=nx
   .subst hi;rw[aw] at hq;cases hq;simp[Pl.cn]
   .rw[aV _ _ hi] at hq;exact hf i q hq
  .rw[aV _ _ (λe=>by rw[e,hn] at hq;cases hq)];exact hq
 have sub:∀ i q b,up β nx (some .nil) i=some q->q.cn=some b->β i=some q:=λi q b hq e=>by
  by_cases hi:i=nx
  .subst hi;rw[aw] at hq;cases hq;simp[Pl.cn] at e
  .rw[aV _ _ hi] at hq;exact hq
 refine⟨⟨λi r hi=>?_,λi j p q b hp hq e J=>hm.inj i j p q b (sub i p b hp e) (sub j q b hq J) e J,λi p b hp e=>hm.lt i p b (sub i p b hp e) e,λi p b hp e=>hm.nf i p b (sub i p b hp e) e,hm.fb⟩,hs⟩;by_cases C:i=nx
 .subst C;rw[aw] at hi;cases hi;exact⟨.nil,aw _ _ _,.nil e⟩
 .rw[aV _ _ C] at hi;let⟨p,hp,aF⟩:=hm.row i r hi;exact⟨p,by rw[aV _ _ C];exact hp,aF.step hs λ_ _=>rfl⟩
structure Src(P:Program)(w:World)(t u ty E:TypeId)(vx:Value)(k:Nat)(c:List Value):Prop where
 len:c.length=k*P.cellsOf E
 zero:k=0->∀ a0 n cap,n<=cap->(Builtin.append_ #[t,u] ty #[.slice a0 n cap,vx]).run P w=.ok (.slice a0 n cap) w
 new:0<k->∀ a0 n cap (jJ:List Value) z,(P.info? E).bind (·.zero)=some z->jJ.length=n*P.cellsOf E->(∀ ad,a0=some ad->∀ j v,jJ[j]? =some v->w.cell? (ad.add j)=some v)->(a0=none->n=0/\cap=0)->n<=cap->cap<n+k->n+k<=maxLen->(n+k)*P.bytesOf E<=140737488355328->
  (Builtin.append_ #[t,u] ty #[.slice a0 n cap,vx]).run P w=.ok (.slice (some ⟨w.heap.size,0,none⟩) (n+k) (grownCap w (n+k) cap E)) (w.drew.alloc (.cells (jJ.toArray++c.toArray++Builtin.zeroCells z.cells (grownCap w (n+k) cap E - (n+k))) E))
 fit:0<k->∀ g o n cap (cur:Array Value),w.heap[g]? =some (.cells cur E (0,0))->n+k<=cap->o+n*P.cellsOf E+c.length<=cur.size->(∀ v∈c,v.oneCell'=true)->
  (Builtin.append_ #[t,u] ty #[.slice (some ⟨g,o,none⟩) n cap,vx]).run P w=.ok (.slice (some ⟨g,o,none⟩) (n+k) cap) (w.setRow g (cur.toList.take (o+n*P.cellsOf E)++c++cur.toList.drop (o+n*P.cellsOf E+c.length)).toArray)
def Ql(hm:bc P F m β w){t ty:TypeId}(hx:R F β w x vx)(h:mS m (P.cellsOf (aT P t)) x=some (p,rd,k,news))(hp:p)(ht:bH P t=true)(ow:0<P.cellsOf (aT P t)):
 ∃ c,Rl F β w news c/\Src P w t t ty (aT P t) vx k c:=by
 let⟨hu,cu⟩:=mT ht;let⟨i,d,z,hi,hd,hz,_,mP,_,cC,hb,_⟩:=wF cu;obtain⟨a,c',c,rfl,dB,U,fI,J⟩:=ahG hm hx h hp (λ_ _ _ _ _ _ _=>.inr aa)
 have C:0<k->∃ ad,a=some ad:=λhk=>by
  cases a with
  |none=>have:=(J rfl).2;have:=Nat.mul_pos hk ow;omega
  |some ad=>exact⟨ad,rfl⟩
 refine⟨c,dB,U,λhk a0 n cap M=>?_,λhk a0 n cap jJ z' X qT Aa h0 lO hg eJ nT=>?_,λhk g o n cap cur T0 y3 Jq p7=>?_⟩
 .subst hk;exact agp (P:=P) (w:=w) t ty _ i hu hi a0 a n cap c' M
 .obtain⟨ad,rfl⟩:=C hk;simp[hi,Option.bind_some] at X;rw[hz] at X;cases X;exact agt (P:=P) (w:=w) t ty _ i z hu hi hz a0 n cap jJ (by rw[cC];exact qT) Aa h0 lO ad k c' c (by rw[cC];exact U) (fI ad rfl) hg eJ (by rw[hb];exact nT)
 .obtain⟨ad,rfl⟩:=C hk;have fm:=ags (P:=P) (w:=w) t ty _ i hu hi g o n cap cur T0 ad k c' c (by rw[cC];exact U) (fI ad rfl) p7 y3 (by rw[cC];omega);rw[cC] at fm;exact fm
def HG(hm:bc P F m β w)(hn:β nx=none){t u ty E:TypeId}{vs:Value}(dB:Rl F β w news c)(X:Src P w t u ty E vx k c)(cu:a8 P E=true)(ow:0<P.cellsOf E){pre:Prop}:
 (R F β w .z vs->k<=maxLen->k*P.bytesOf E<=140737488355328->bB P F m nx β w { pre:=pre,val:=.rs nx 0 k,bF:=[(nx,some (.cells news E))],rd:=rd,new:=1 } (do Pure.pure (Next.value (<- Builtin.append_ #[t,u] ty #[vs,vx]))))/\
 (∀ es n,R F β w (.sc es n) vs->0<k->n*P.cellsOf E=es.length->n+k<=maxLen->(n+k)*P.bytesOf E<=140737488355328->
  bB P F m nx β w { pre:=pre,val:=.rs nx 0 (n+k),bF:=[(nx,some (.cells (es++news) E))],rd:=rd,new:=1 } (do Pure.pure (Next.value (<- Builtin.append_ #[t,u] ty #[vs,vx]))))/\
 ∀ i off n cs,R F β w (.rs i off n) vs->m i=some (.cells cs E)->off+n*P.cellsOf E=cs.length->n+k<=maxLen->(n+k)*P.bytesOf E<=140737488355328->
  bB P F m nx β w { pre:=pre,val:=.rs nx 0 (n+k),bF:=[(i,none),(nx,some (.cells (cs.drop off++news) E))],rd:=rd,new:=1 } (do Pure.pure (Next.value (<- Builtin.append_ #[t,u] ty #[vs,vx]))):=by
 let⟨ii,d,z,hi,_,hz,_,mP,_,azD,_⟩:=wF cu;have wq:=X.len;have Sc:k=0->news=[]:=λhk=>eq_nil_of_length_eq_zero (by rw[<- dB.1,wq,hk];simp)
 have grow:∀ (β0:aZ) (m0:Mem),bc P F m0 β0 w->Step β w β0 w->β0 nx=none->(∀ i,β i=none->β0 i=none)->∀ (a0:Option Addr) (n cap:Nat) (NL:List D) (jJ:List Value),Rl F β0 w NL jJ->jJ.length=n*P.cellsOf E->
  (∀ ad,a0=some ad->∀ j v,jJ[j]? =some v->w.cell? (ad.add j)=some v)->(a0=none->n=0/\cap=0)->n<=cap->n+k<=maxLen->(n+k)*P.bytesOf E<=140737488355328->0<k->cap<n+k->
  ∃ v w' β',(Builtin.append_ #[t,u] ty #[.slice a0 n cap,vx]).run P w=.ok v w'/\R F β' w' (.rs nx 0 (n+k)) v/\bc P F (up m0 nx (some (.cells (NL++news) E))) β' w'/\Step β w β' w'/\∀ i,β i=none->(i<nx\/nx+1<=i)->β' i=none:=by
  intro β0 m0 mN zu Cq ng a0 n cap NL jJ hold qT Aa h0 lO eJ nT hk hg;have M:=X.new hk a0 n cap jJ z (by simp[hi,hz]) qT Aa h0 lO hg eJ nT;have uH:Rl F β0 w.drew (NL++news) (jJ++c):=(hold.append (dB.step zu)).step X7;let⟨β',C,J,g3,g4⟩:=ai0 (P:=P) (nx:=nx) (e:=E) (z:=z) mN.drew Cq mP uH (n:=n+k) (N:=grownCap w (n+k) cap E) (by rw[<- uH.1,length_append,qT,wq,Nat.add_mul]) (grownCap_ge w _ _ _) (grownCap_le_maxLen w _ _ _ eJ);have e1:(jJ++c).toArray=jJ.toArray++c.toArray:=by simp
  rw[e1] at C J g3;refine⟨_,_,β',M,g3,C,(zu.trans X7).trans J,λj hj l9=>?_⟩;rw[g4 j oG];exact ng j hj
 refine⟨λhs eJ nT=>?_,λes n hs hk hlen eJ nT=>?_,λi off n cs hs dT acw eJ nT=>?_⟩
 .obtain⟨a0,rfl⟩:=hs.F1;rcases Nat.eq_zero_or_pos k with hk|hk
  .let⟨C,J⟩:=aam hm hn E;have:=Sc hk;subst hk this;exact⟨.value (.slice a0 0 0),.slice a0 0 0,w,up β nx (some .nil),by simp[X.zero rfl a0 0 0 (bY _)],.inl rfl,.lN nx a0 r9,C,J,Bh⟩
  .let⟨v,w',β',M,C,J,g3,g4⟩:=grow β m hm (Step.refl β w) hn (λ_ h=>h) a0 0 0 [] [] ⟨rfl,oS⟩ oS oS (λ_=>⟨rfl,rfl⟩) (bY _) oG (s0 nT) hk oG;refine⟨.value v,v,w',β',by simp[M],.inl rfl,?_,?_,g3,g4⟩
   .simpa using C
   .simpa[dx] using J
 .cases hs with
  |sc _ _ a h=>
  rcases h.Bx with⟨rfl,rfl,a',atW,hv⟩|⟨b,o,atW,hv,_,_,_,_,_,cQ⟩
  .cases hv;let⟨v,w',β',M,C,J,g3,g4⟩:=grow β m hm (Step.refl β w) hn (λ_ h=>h) a 0 0 [] [] ⟨rfl,oS⟩ oS oS (λ_=>⟨rfl,rfl⟩) (bY _) eJ nT hk oG;exact⟨.value v,v,w',β',by simp[M],.inl rfl,C,by simpa[dx] using J,g3,g4⟩
  .cases hv;let⟨jJ,J7,U7⟩:=cQ.Jr;let⟨v,w',β',M,C,J,g3,g4⟩:=grow β m hm (Step.refl β w) hn (λ_ h=>h) (some ⟨b,o,none⟩) n n es jJ J7 (by rw[J7.1];exact hlen.symm) (λad Ep=>by cases Ep;exact U7) oS (bY _) eJ nT hk oG;exact⟨.value v,v,w',β',by simp[M],.inl rfl,C,by simpa[dx] using J,g3,g4⟩
 .have cR:i≠nx:=λe=>by
   let⟨p',lu,_⟩:=hm.row i _ dT;rw[e,hn] at lu;cases lu
  have U9:=hm.dead i;have Ox:=EZ β w i;have fO:up β i (some .dead) nx=none:=by rw[aV _ _ (Ne.symm cR)];exact hn
  have ng:∀ j,β j=none->up β i (some .dead) j=none:=λj hj=>by
   by_cases dh:j=i
   .subst dh;let⟨p',lu,_⟩:=hm.row j _ dT;rw[hj] at lu;cases lu
   .rw[aV _ _ dh];exact hj
  have small:∀ a0:Option Addr,n=0->cs.length=off->vs=.slice a0 0 0->bB P F m nx β w { pre:=pre,val:=.rs nx 0 (n+k),bF:=[(i,none),(nx,some (.cells (cs.drop off++news) E))],rd:=rd,new:=1 } (do Pure.pure (Next.value (<- Builtin.append_ #[t,u] ty #[vs,vx]))):=by
   rintro a0 rfl rN rfl;have acx:cs.drop off=[]:=by simp;omega
   rcases Nat.eq_zero_or_pos k with rfl|hk
   .have wU:=Sc rfl;subst wU;let⟨C,J⟩:=aam U9 fO E;refine⟨.value (.slice a0 0 0),.slice a0 0 0,w,_,by simp[X.zero rfl a0 0 0 (bY _)],.inl rfl,.lN nx a0 r9,?_,Ox.trans J,λj hj l9=>?_⟩
    .simp only[dx,acx,append_nil];exact C
    .rw[aV _ _ (by simp only at l9;omega)];exact ng j hj
   .let⟨v,w',β',M,C,J,g3,g4⟩:=grow _ _ U9 Ox fO ng a0 0 0 [] [] ⟨rfl,oS⟩ oS oS (λ_=>⟨rfl,rfl⟩) (bY _) oG nT hk oG;refine⟨.value v,v,w',β',by simp[M],.inl rfl,?_,?_,g3,g4⟩
    .simpa using C
    .simp only[dx,acx];exact J
  rcases hs.FK hm dT with⟨rfl,rfl,rfl,lK,a0,rfl⟩|⟨b,o,room,hβ,aF,y4⟩
  .exact small a0 rfl rfl rfl
  .rcases y4 with⟨rfl,a0,rfl⟩|⟨cap,rfl,C,J,g3,g4⟩
   .exact small a0 rfl oG rfl
   .let⟨jJ,J7,U7⟩:=(aF.rd.1.drop off).Jr;have qT:jJ.length=n*P.cellsOf E:=by rw[J7.1];simp;omega
    rcases Nat.lt_or_ge cap (n+k) with hg|hg
    .have hk:0<k:=by omega
     let⟨v,w',β',M,k1,k2,k3,k4⟩:=grow _ _ U9 Ox fO ng (some ⟨b,o+off,none⟩) n cap (cs.drop off) jJ (J7.step Ox) qT (λad Ep=>by cases Ep;exact U7) oS C eJ nT hk hg;exact⟨.value v,v,w',β',by simp[M],.inl rfl,k1,k2,k3,k4⟩
    ·
      cases aF with
      |cells _ _ _ _ _ _ U Ha y3 hle cC hh=>
      have azs:(up β i (some .dead)) nx=none:=fO;rcases Nat.eq_zero_or_pos k with rfl|hk
      .have wU:=Sc rfl;subst wU
       let⟨q1,q2⟩:=hm.move (w':=w) (nx:=nx) (p':=.cells b (o+off) (cs.drop off).length (room - off) (P.cellsOf E)) hβ rfl rfl hn rfl (λ_ _=>rfl) (.cells (cs.drop off) E) (λcx=>by
        refine .cells _ E b (o+off) (room - off) _ U Ha oG oP rfl λj d hj=>?_;rw[getElem?_drop] at hj;let⟨u,ux,uy,uz⟩:=hh (off+j) d hj
        exact⟨u,by rw[Nat.add_assoc];exact ux,uy.step cx,uz⟩)
       refine⟨.value (.slice (some ⟨b,o+off,none⟩) n cap),_,w,_,by simp[X.zero rfl (some ⟨b,o+off,none⟩) n cap C],.inl rfl,?_,?_,q2,λj hj l9=>?_⟩
       .have:=R.rs (F:=F) (β:=up (up β i (some .dead)) nx (some (.cells b (o+off) (cs.drop off).length (room - off) (P.cellsOf E)))) (w:=w) nx 0 n cap b (o+off) (cs.drop off).length (room - off) (P.cellsOf E) r9 C J oP oG;simpa using this
       .simp only[dx,append_nil];exact q1
       .rw[aV _ _ (by simp only at l9;omega)];exact ng j hj
      .have hmul:n*P.cellsOf E+k*P.cellsOf E<=cap*P.cellsOf E:=by rw[<- Nat.add_mul];exact Nat.mul_le_mul_right _ hg
       have p7:∀ u∈c,u.oneCell'=true:=λu hu=>by
        let⟨j,hj⟩:=cV hu;have cW:j<news.length:=by rw[<- dB.1];exact(bQ.1 hj).1
        exact(dB.2 j news[j] u (by simp[cW]) hj).2
       have M:=X.fit hk b (o+off) n cap U Ha hg oG p7;have iL:news.length=k*P.cellsOf E:=by rw[<- dB.1];exact wq
       have BD:=setRow_heap w b U (U.toList.take (o+off+n*P.cellsOf E)++c++U.toList.drop (o+off+n*P.cellsOf E+c.length)).toArray E (0,0) Ha
       have Nh:(U.toList.take (o+off+n*P.cellsOf E)++c++U.toList.drop (o+off+n*P.cellsOf E+c.length)).toArray.size=U.size:=by
        simp only[size_toArray,length_append,length_take,length_drop,Array.length_toList];omega
       let⟨q1,q2⟩:=hm.move (w':=w.setRow b (U.toList.take (o+off+n*P.cellsOf E)++c++U.toList.drop (o+off+n*P.cellsOf E+c.length)).toArray) (nx:=nx) (p':=.cells b (o+off) (cs.drop off++news).length (room - off) (P.cellsOf E)) hβ rfl rfl hn oS (λj hj=>setRow_other w b j _ hj) (.cells (cs.drop off++news) E) (λcx=>by
        refine .cells _ E b (o+off) (room - off) _ _ BD (by rw[Nh];omega) oP rfl λj d hj=>?_;have hv:=KS U.toList (o+off+n*P.cellsOf E) c oP (o+off+j);simp only[getElem?_toArray];by_cases ao:j<(cs.drop off).length
        .rw[getElem?_append_left ao,getElem?_drop] at hj;let⟨u,ux,uy,uz⟩:=hh (off+j) d hj;rw[bi (by simp at ao;omega)] at hv;exact⟨u,by rw[hv,Nat.add_assoc];simpa using ux,uy.step cx,uz⟩
        .rw[getElem?_append_right oG] at hj;have cW:=(bQ.1 hj).1;simp only[length_drop] at hj cW ao;rw[ai oG,bi oG,show o+off+j - (o+off+n*P.cellsOf E)=j - (cs.length - off) from by omega] at hv;have adG:j - (cs.length - off)<c.length:=by omega
         let⟨r1,r2⟩:=dB.2 _ d c[j - (cs.length - off)] hj (by simp[adG])
         exact⟨_,by rw[hv];simp[adG],r1.step cx,r2⟩)
       refine⟨.value (.slice (some ⟨b,o+off,none⟩) (n+k) cap),_,_,_,by simp[M],.inl rfl,?_,q1,q2,λj hj l9=>?_⟩
       .refine .rs nx 0 (n+k) cap b (o+off) _ (room - off) _ r9 hg J ?_ oG;simp only[length_append,length_drop];omega
       .rw[aV _ _ (by simp only at l9;omega)];exact ng j hj
def ahH(hm:bc P F m β w)(hn:β nx=none){t ty:TypeId}{s:D}{vs:Value}{e:eC}(hs:R F β w s vs)(hx:R F β w x vx)(h:vt P m nx t s x=some e)(hp:e.pre):
 bB P F m nx β w e (do Pure.pure (Next.value (<- Builtin.append_ #[t,t] ty #[vs,vx]))):=by
 unfold vt at h;simp only at h;cases M:mS m (P.cellsOf (aT P t)) x with
 |none=>simp[M] at h
 |some q=>
 let⟨p,rd,k,news⟩:=q;simp[M] at h;cases s with
 |z=>
  simp[bg] at h;subst h;let⟨ht,U,J,eJ,nT⟩:=hp;let⟨c,dB,X⟩:=Ql (ty:=ty) hm hx M U ht J;exact(HG hm hn dB X (mT ht).2 J).1 hs eJ nT
 |rs i off n=>
  simp only at h;cases C:m i with
  |none=>simp[C] at h
  |some r=>
  cases r with
  |map es=>simp[C] at h
  |raw es=>simp[C] at h
  |bs u x T=>simp[C] at h
  |lp k=>simp[C] at h
  |lq f r=>simp[C] at h
  |cells cs e'=>
  simp[C,bg] at h;subst h;let⟨ht,hee,U,J,acw,eJ,nT,cQ⟩:=hp;subst hee;let⟨c,dB,X⟩:=Ql (ty:=ty) hm hx M U ht J;exact(HG hm hn dB X (mT ht).2 J).2.2 i off n cs hs C acw eJ nT
 |_=>simp at h
end
end
section
variable{a:Value}
def aaf{b:Value}(h:xu a b=true):a=b:=by
 unfold xu at h;split at h
 .simp at h;rw[h.1,h.2]
 .simp at h;rw[h]
 .rename_i a b;simp[beq_iff_eq] at h;congr 1;cases a;cases b;simp[ByteArray.mk.injEq];exact Array.ext' (s0 h)
 .cases h
def Ru:∀ {a b:List Value},lf a b=true->a=b
 |[],[],_=>rfl
 |a::aS,b::bs,h=>by
  simp[lf,aJ] at h;rw[aaf h.1,Ru h.2]
 |[],_::_,h=>by simp[lf] at h
 |_::_,[],h=>by simp[lf] at h
def abp{b:Value}(h:tk a b=true):a=b:=by
 unfold tk at h;split at h
 .rw[Array.ext' (Ru h)]
 .exact aaf h
def ld:Value->Bool
 | .int _ _ | .bool _ | .string _=>true
 |_=>false
def aiM(h:ld a=true):xu a a=true:=by
 unfold ld at h;split at h<;>simp_all[xu]
def Qj:∀ {a:List Value},a.all ld=true->lf a a=true
 |[],_=>rfl
 |a::aS,h=>by
  simp only[all_cons,aJ] at h;simp[lf,aiM h.1,Qj h.2]
variable{t:TypeId}{k key:Value}{es:List (Value×D)}{e:eC}{ts:Array TypeId}
section
variable{P:Program}
structure MQ(P:Program)(t kt et:TypeId):Prop where
 zv:P.underlying t=some (.map kt et)
 elem:a8 P et=true
 zero:G8 P et=true
 refl:∀ v,ew P kt v=true->tk v v=true
 one:∀ v,ew P kt v=true->v.oneCell'=true\/∃ vs,v=.agg vs
 check:∀ (w:World) (em:Bool) (v:Value),ew P kt v=true->(Instr.checkKey em 10000 kt v).run P w=.ok () w
 find:∀ (w:World) (x:Value),ew P kt x=true->∀ es:List MapEntry,(∀ e∈es,ew P kt e.key=true)->
  ((Instr.findKey kt x es).run P w=.ok none w/\∀ e∈es,e.key≠x)\/∃ j e,(Instr.findKey kt x es).run P w=.ok (some (j,e.val)) w/\es[j]? =some e/\e.key=x
 stays:∀ (w:World) (v:Value),ew P kt v=true->(Instr.keyThatStays v v).run P w=.ok v w
def PF{kt et:TypeId}{d:TypeDesc}(hu:P.underlying t=some (.map kt et))(he:a8 P et=true)(hz:G8 P et=true)(hd:P.underlying kt=some d)(hk:∀ v,ew P kt v=true↔MapKept.IsKey d v):MQ P t kt et where
 zv:=hu
 elem:=he
 zero:=hz
 refl:=λv h=>by
  have:=(hk v).1 h;cases d<;>cases v<;>simp_all[MapKept.IsKey,tk,xu]
 one:=λv h=>by
  have:=(hk v).1 h;left;cases d<;>cases v<;>simp_all[MapKept.IsKey,Value.oneCell']
 check:=λw em v h=>MapKept.run_checkKey hd ((hk v).1 h) em 9999
 find:=λw x hx es J=>by
  rcases MapKept.findNow_spec ((hk x).1 hx) es 0 (λe he=>(hk _).1 (J e he)) with⟨h1,h2⟩|⟨j,e,h1,h2,C⟩
  .exact .inl ⟨MapKept.run_findKey hd h1,h2⟩
  .exact .inr ⟨j,e,by have:=MapKept.run_findKey (P:=P) (w:=w) hd h1;simpa using this,h2,C⟩
 stays:=λw v h=>MapKept.run_keyThatStays ((hk v).1 h)
def W3{kt et:TypeId}(hu:P.underlying t=some (.map kt et))(he:a8 P et=true)(hz:G8 P et=true)(J:(match P.underlying kt with|some (.array _ _)|some (.struct _)=>true|_=>false)=true)
 (h1:P.keyTypeAt 9 kt=true) (h2:P.tiled 9 kt=true):MQ P t kt et:=by
 have C:=deep_law (P:=P) (m:=9) oG h1 h2 J
 have hk:∀ v,ew P kt v=true↔∃ l,keyOf P kt v=some l:=λv=>by
  unfold ew;split at J
  .simp_all[Option.isSome_iff_exists]
  .simp_all[Option.isSome_iff_exists]
  .cases J
 refine⟨hu,he,hz,λv h=>?_,λv h=>?_,λw em v h=>?_,λw x hx es U=>?_,λw v h=>?_⟩
 .let⟨l,hl⟩:=(hk v).1 h;obtain⟨xs,L,rfl,M,_⟩:=keyOf_top J hl;have:=cells_of_lits 9 kt h2 _ _ _ M;simp[tk];rw[this];refine Qj (bK.2 λu hu=>?_);obtain⟨l,_,rfl⟩:=mem_map.1 hu;cases l<;>rfl
 .let⟨l,hl⟩:=(hk v).1 h;obtain⟨xs,L,rfl,_⟩:=keyOf_top J hl;exact .inr ⟨xs,rfl⟩
 .let⟨l,hl⟩:=(hk v).1 h;exact C.check w em hl
 .let⟨l,hl⟩:=(hk x).1 hx;exact C.find w hl es λe he=>(hk _).1 (U e he)
 .let⟨l,hl⟩:=(hk v).1 h;exact C.stays w hl
def E2(h:kN P t=true):MQ P t (iZ P t) (qL P t):=by
 unfold kN at h;split at h
 .rename_i kt et hu;have C:iZ P t=kt:=by simp[iZ,hu]
  have e2:qL P t=et:=by simp[qL,hu]
  rw[C,e2];simp[aJ] at h;let⟨⟨h1,hz⟩,h2⟩:=h;split at h2
  .rename_i hd;exact PF hu h1 hz hd λv=>by unfold ew;rw[hd];cases v<;>simp[MapKept.IsKey]
  .rename_i hd;exact PF hu h1 hz hd λv=>by unfold ew;rw[hd];cases v<;>simp[MapKept.IsKey]
  .rename_i hd;exact PF hu h1 hz hd λv=>by unfold ew;rw[hd];cases v<;>simp[MapKept.IsKey]
  .rename_i hd;simp[aJ] at h2;exact W3 hu h1 hz (by rw[hd]) h2.1 h2.2
  .rename_i hd;simp[aJ] at h2;exact W3 hu h1 hz (by rw[hd]) h2.1 h2.2
  .cases h2
 .cases h
def Xs:∀ {es:List (Value×D)},fF k es=none->∀ e∈es,tk e.1 k=false
 |[],_,e,he=>by cases he
 |(k',d)::es,h,e,he=>by
  simp[fF] at h;split at h
  .cases h
  .rename_i C;simp[Option.map_eq_none_iff] at h;rcases mem_cons.1 he with rfl|he
   .simpa using C
   .exact Xs h e he
def PY:∀ {es:List (Value×D)} {j:Nat} {d:D},fF k es=some (j,d)->∃ k',es[j]? =some (k',d)/\tk k' k=true
 |[],j,d,h=>by simp[fF] at h
 |(k',d')::es,j,d,h=>by
  simp[fF] at h;split at h
  .rename_i hv;simp[bg,dp] at h;obtain⟨rfl,rfl⟩:=h;exact⟨k',rfl,hv⟩
  .simp only[ej] at h;let⟨⟨X,J⟩,h1,h2⟩:=h;simp only[dp] at h2;obtain⟨rfl,rfl⟩:=h2;let⟨C,M,U⟩:=PY h1;exact⟨C,s0 M,U⟩
def HT{kt et:TypeId}(L:MQ P t kt et)(w:World)(hk:ew P kt key=true){es:List (Value×D)}(oJ:es.all (λe=>ew P kt e.1)=true){ms:List MapEntry}(hl:ms.length=es.length)
 (X:∀ (k:Nat) (x:Value×D) (m:MapEntry),es[k]? =some x->ms[k]? =some m->m.key=x.1) (fN:(es.map (·.1)).Nodup):
 (fF key es=none/\(Instr.findKey kt key ms).run P w=.ok none w/\(∀ e∈es,e.1≠key))\/
 ∃ j d e,fF key es=some (j,d)/\(Instr.findKey kt key ms).run P w=.ok (some (j,e.val)) w/\ms[j]? =some e/\e.key=key/\es[j]? =some (key,d):=by
 have hms:∀ e∈ms,ew P kt e.key=true:=λe he=>by
  let⟨k,C⟩:=cV he;have ao:k<es.length:=by rw[<- hl];exact(bQ.1 C).1
  rw[X k es[k] e (by simp[ao]) C];exact bK.1 oJ _ (eh ao)
 rcases L.find w key hk ms hms with⟨h1,h2⟩|⟨j,e,h1,h2,U⟩
 .left
  have aR:∀ e∈es,e.1≠key:=λe he hke=>by
   let⟨k,C⟩:=cV he;have ao:k<ms.length:=by rw[hl];exact(bQ.1 C).1
   exact h2 ms[k] (eh ao) ((X k e ms[k] C (by simp[ao])).trans hke)
  refine⟨?_,h1,aR⟩;cases M:fF key es with
  |none=>rfl
  |some x=>
   let⟨j,d⟩:=x;let⟨k',U,J⟩:=PY M;exact absurd (abp J) (aR _ (bD U))
 .right;have ao:j<es.length:=by rw[<- hl];exact(bQ.1 h2).1
  have hej:es[j]? =some es[j]:=by simp[ao]
  have jQ:es[j].1=key:=(X j es[j] e hej h2).symm.trans U;cases M:fF key es with
  |none=>
   have:=Xs M es[j] (eh ao);rw[jQ,L.refl key hk] at this;cases this
  |some x=>
   let⟨j',d⟩:=x;let⟨k',J,h5⟩:=PY M;have C:=abp h5;subst C;have pZ:j'<es.length:=(bQ.1 J).1
   have J4:j'=j:=by
    refine(getElem_inj (h₀:=s0 pZ) (h₁:=s0 ao) fN).1 ?_;simp[getElem_map];have:=(bQ.1 J).2;rw[this,jQ]
   subst J4;exact⟨j',d,e,rfl,h1,h2,U,J⟩
variable{F:Nat->Prop}{m:Mem}{nx:Nat}{β:aZ}{w:World}
def aag:∀ {cs:List D} {vs us:List Value},F5 cs=some vs->us.length=cs.length->(∀ (k:Nat) (d:D) (u:Value),cs[k]? =some d->us[k]? =some u->R F β w d u)->us=vs
 |[],vs,us,h,hl,_=>by
  simp[F5] at h;subst h;simpa using hl
 |d::cs,vs,us,h,hl,hr=>by
  cases us with
  |nil=>simp at hl
  |cons u us=>
   have h0:=hr 0 d u rfl rfl;cases d with
   |s v=>
    simp[F5,ej] at h;obtain⟨C,h1,rfl⟩:=h;rw[h0.du.1,aag (us:=us) h1 (s0 hl) λk d u hd hu=>hr (k+1) d u (s0 hd) (s0 hu)]
   |_=>simp[F5] at h
def II{d:D}{v:Value}(hk:xv d=some key)(h:R F β w d v):v=key:=by
 unfold xv at hk;split at hk
 .rw[h.du.1];simpa using hk
 .obtain⟨us,rfl,hl,hr⟩:=h.wK;simp[ej] at hk;obtain⟨vs,h1,rfl⟩:=hk;rw[aag h1 hl hr]
 .cases hk
def R.IC(hm:bc P F m β w){i:Nat}{v:Value}(h:R F β w (.mp i) v)(hi:m i=some (.map es)):
 ∃ r ms clock,β i=some (.map r)/\v=.map (some r)/\w.heap[r]? =some (.map ms clock)/\ms.size=es.length/\(es.map (·.1)).Nodup/\
  ∀ (k:Nat) (x:Value×D) (m:MapEntry),es[k]? =some x->ms[k]? =some m->m.key=x.1/\R F β w x.2 m.val:=by
 let⟨p,hp,aF⟩:=hm.row i _ hi;cases h with
 |Ed _ _ h _=>rw[h] at hp;cases hp;cases aF
 |mp _ r h=>
  rw[h] at hp;cases hp;cases aF with
  |map _ _ ms clock h1 h2 C J=>exact⟨r,ms,clock,h,rfl,h1,h2,C,J⟩
def R.aoL{v:Value}(h:R F β w (.im es) v):
 ∃ r ms clock,v=.map (some r)/\w.heap[r]? =some (.map ms clock)/\ms.size=es.length/\(es.map (·.1)).Nodup/\
  ∀ (k:Nat) (x:Value×D) (m:MapEntry),es[k]? =some x->ms[k]? =some m->m.key=x.1/\R F β w x.2 m.val:=by
 cases h with
 |im _ r ms clock hf hb hc hl fN hk hh=>exact⟨r,ms,clock,rfl,hc,hl,fN,λk x m hx hm=>⟨hk k x m hx hm,hh k x m hx hm⟩⟩
def Rw(ht:a8 P t=true)(C:G8 P t=true):∃ v,(zeroValue t).run P w=.ok v w/\R F β w (rF P t) v:=by
 let⟨i,d,z,hi,_,hz,uG,mP,U,_,_,h4⟩:=wF ht;let⟨X,c2⟩:=FJ (F:=F) (β:=β) (w:=w) U h4;refine⟨z,by simp[zeroValue,typeInfo,hi,hz],?_⟩;unfold rF;unfold G8 at C;simp[hi,Option.bind_some,hz] at C
 have single:(∀ cs,z≠ .agg cs)->bX P t=false->R F β w ((bN P t).headD .u) z:=λJ ha=>by
  have hc:z.cells.toList=[z]:=by cases z<;>first|rfl|exact absurd rfl (J _)
  have:bN P t=[rL z]:=by rw[U,hc];rfl
  rw[this];exact R' z
 split at C
 .rename_i cs M;simp[bg] at M;subst M;rw[bi C];have:=R.agg (F:=F) (β:=β) (w:=w) (bN P t) cs.toList (by simpa[Value.cells] using X) λk d u hd hu=>(c2 k d u hd (by simpa[Value.cells] using hu)).1;simpa using this
 .rename_i u J hu;simp[Bool.not_eq_true'] at C;simp[bg] at hu;rw[ai (by simp[C])];exact single (λcs h=>J cs (by rw[<- hu,h])) C
 .cases C
def ahw(hm:bc P F m β w){x k:D}{ok:Bool}{vx U:Value}(hx:R F β w x vx)(hk:R F β w k U)(h:ry P m t x k ok=some e)(hp:e.pre):
 bB P F m nx β w e (do Pure.pure (Next.value (<- Instr.lookup t vx U ok))):=by
 unfold ry at h;split at h
 .rename_i key i J;rw[II J hk];split at h
  .rename_i es hi;cases h;let⟨h1,h2,M⟩:=hp;have L:=E2 h1;obtain⟨r,ms,clock,X,rfl,hb,hl,fN,hh⟩:=hx.IC hm hi;let⟨z,hz,C⟩:=Rw (F:=F) (β:=β) (w:=w) L.elem L.zero;rcases HT L w h2 M (ms:=ms.toList) (s0 hl) (λk x m hx hm=>(hh k x m hx (s0 hm)).1) fN with⟨f1,f2,_⟩|⟨j,d,en,f1,f2,f3,f4,f5⟩
   .refine⟨.value (if ok then .tuple #[z,.bool false] else z),_,w,β,?_,.inl rfl,?_,hm,Step.refl β w,λ_ h _=>h⟩
    .simp[Instr.lookup,run_underlying L.zv,MapKept.run_getObj_map hb,L.check w _ key h2,f2,hz]
    .simp[f1,lg];cases ok
     .exact C
     .exact .bu _ [z,.bool false] rfl λk d u hd hu=>by
       match k with
       |0=>simp at hd hu;subst hd;subst hu;exact C
       |1=>simp at hd hu;subst hd;subst hu;exact .s _ rfl
       |k+2=>simp at hd
   .have hv:=(hh j _ en f5 (s0 f3)).2;refine⟨.value (if ok then .tuple #[en.val,.bool true] else en.val),_,w,β,?_,.inl rfl,?_,hm,Step.refl β w,λ_ h _=>h⟩
    .simp[Instr.lookup,run_underlying L.zv,MapKept.run_getObj_map hb,L.check w _ key h2,f2]
    .simp[f1,lg];cases ok
     .exact hv
     .exact .bu _ [en.val,.bool true] rfl λk d u hd hu=>by
       match k with
       |0=>simp at hd hu;subst hd;subst hu;exact hv
       |1=>simp at hd hu;subst hd;subst hu;exact .s _ rfl
       |k+2=>simp at hd
  .cases h
 .rename_i key es J;rw[II J hk]
  .cases h;let⟨h1,h2,M⟩:=hp;have L:=E2 h1;obtain⟨r,ms,clock,rfl,hb,hl,fN,hh⟩:=hx.aoL;let⟨z,hz,C⟩:=Rw (F:=F) (β:=β) (w:=w) L.elem L.zero;rcases HT L w h2 M (ms:=ms.toList) (s0 hl) (λk x m hx hm=>(hh k x m hx (s0 hm)).1) fN with⟨f1,f2,_⟩|⟨j,d,en,f1,f2,f3,f4,f5⟩
   .refine⟨.value (if ok then .tuple #[z,.bool false] else z),_,w,β,?_,.inl rfl,?_,hm,Step.refl β w,λ_ h _=>h⟩
    .simp[Instr.lookup,run_underlying L.zv,MapKept.run_getObj_map hb,L.check w _ key h2,f2,hz]
    .simp[f1,lg];cases ok
     .exact C
     .exact .bu _ [z,.bool false] rfl λk d u hd hu=>by
       match k with
       |0=>simp at hd hu;subst hd;subst hu;exact C
       |1=>simp at hd hu;subst hd;subst hu;exact .s _ rfl
       |k+2=>simp at hd
   .have hv:=(hh j _ en f5 (s0 f3)).2;refine⟨.value (if ok then .tuple #[en.val,.bool true] else en.val),_,w,β,?_,.inl rfl,?_,hm,Step.refl β w,λ_ h _=>h⟩
    .simp[Instr.lookup,run_underlying L.zv,MapKept.run_getObj_map hb,L.check w _ key h2,f2]
    .simp[f1,lg];cases ok
     .exact hv
     .exact .bu _ [en.val,.bool true] rfl λk d u hd hu=>by
       match k with
       |0=>simp at hd hu;subst hd;subst hu;exact hv
       |1=>simp at hd hu;subst hd;subst hu;exact .s _ rfl
       |k+2=>simp at hd
 .rename_i key J;rw[II J hk];cases h;let⟨h1,h2⟩:=hp;have L:=E2 h1;rw[hx.du.1];let⟨z,hz,C⟩:=Rw (F:=F) (β:=β) (w:=w) L.elem L.zero;rcases HT L w h2 (es:=[]) rfl (ms:=[]) rfl oS oS with⟨f1,f2,_⟩|⟨j,d,en,f1,f2,f3,f4,f5⟩
  .refine⟨.value (if ok then .tuple #[z,.bool false] else z),_,w,β,?_,.inl rfl,?_,hm,Step.refl β w,λ_ h _=>h⟩
   .simp[Instr.lookup,run_underlying L.zv,L.check w _ key h2,f2,hz]
   .simp[lg];cases ok
    .exact C
    .exact .bu _ [z,.bool false] rfl λk d u hd hu=>by
      match k with
      |0=>simp at hd hu;subst hd;subst hu;exact C
      |1=>simp at hd hu;subst hd;subst hu;exact .s _ rfl
      |k+2=>simp at hd
  .simp at f5
 .cases h
def ahx{r:Nat}{o o':Obj}(hb:w.heap[r]? =some o):(w.heap.setIfInBounds r o').size=w.heap.size/\(w.heap.setIfInBounds r o')[r]? =some o'/\∀ k,k≠r->(w.heap.setIfInBounds r o')[k]? =w.heap[k]? :=
 ⟨oS,(MapKept.heap_set hb).1,λk hk=>(MapKept.heap_set hb).2 k hk⟩
def K7(hm:bc P F m β w){i r:Nat}{ms:Array MapEntry}{clock:Nat}(C:β i=some (.map r))(hb:w.heap[r]? =some (.map ms clock)){es':List (Value×D)}{ms':Array MapEntry}{clock':Nat}
 (hl:ms'.size=es'.length) (fN:(es'.map (·.1)).Nodup) (hh:∀ (k:Nat) (x:Value×D) (m:MapEntry),es'[k]? =some x->ms'[k]? =some m->m.key=x.1/\R F β w x.2 m.val):
 bc P F (up m i (some (.map es'))) β { w with heap:=w.heap.setIfInBounds r (.map ms' clock') }/\Step β w β { w with heap:=w.heap.setIfInBounds r (.map ms' clock') }:=by
 let⟨J,q2,M⟩:=ahx (o':=.map ms' clock') hb;have hs:=HK (w':={ w with heap:=w.heap.setIfInBounds r (.map ms' clock') }) hm C rfl (by simp[J]) M;refine⟨hm.write C rfl J M _ (.map es' r ms' clock' q2 hl fN λk x X hx U=>?_),hs⟩;let⟨h1,h2⟩:=hh k x X hx U;exact⟨h1,h2.step hs⟩
def Xt(hm:bc P F m β w){x k v:D}{vx vk J:Value}(hx:R F β w x vx)(hk:R F β w k vk)(hv:R F β w v J)(h:rz P m t x k v=some e)(hp:e.pre):
 bB P F m nx β w e (do Instr.mapUpdate t vx vk J;Pure.pure Next.skip):=by
 unfold rz at h;split at h
 .rename_i key i s8;rw[II s8 hk];split at h
  .rename_i es hi;cases h;let⟨h1,h2,h3⟩:=hp;have L:=E2 h1;obtain⟨r,ms,clock,hβ,rfl,hb,hl,fN,hh⟩:=hx.IC hm hi;rcases HT L w h2 h3 (ms:=ms.toList) (s0 hl) (λk x m hx hm=>(hh k x m hx (s0 hm)).1) fN with⟨f1,f2,f3⟩|⟨j,d,en,f1,f2,f3,f4,f5⟩
   .let⟨M,U⟩:=K7 (P:=P) hm hβ hb (es':=mG key v es) (ms':=ms.push { key,val:=J,born:=clock }) (clock':=clock+1) (by simp[mG,f1,hl])
     (by
      simp[mG,f1,map_append,map_cons,map_nil];rw[nodup_append];refine⟨fN,oS,λa ha b rW=>?_⟩;simp[mem_singleton] at rW;subst rW;obtain⟨y,hy,rfl⟩:=mem_map.1 ha
      exact f3 y hy)
     (λk x mm hx C=>by
      simp[mG,f1] at hx;rcases Nat.lt_or_ge k es.length with ao|bt
      .rw[getElem?_append_left ao] at hx;rw[Array.getElem?_push_lt oG] at C;exact hh k x mm hx (by rw[<- C];simp[show k<ms.size by omega])
      .rw[getElem?_append_right bt] at hx
       have zw:k - es.length=0:=by
        have:=(bQ.1 hx).1;simp at this;omega
       rw[zw] at hx;simp at hx;subst hx;have:k=ms.size:=by omega
       subst this;simp at C;subst C
       exact⟨rfl,hv⟩)
    exact⟨.skip,undef,_,β,by simp[Instr.mapUpdate,run_underlying L.zv,MapKept.run_getObj_map hb,L.check w _ key h2,f2,MapKept.run_setObj_map _ hb],.inr ⟨rfl,rfl⟩,.bu [] [] rfl oS,M,U,λ_ h _=>h⟩
   .have NK:j<es.length:=(bQ.1 f5).1
    let⟨M,U⟩:=K7 (P:=P) hm hβ hb (es':=mG key v es) (ms':=ms.modify j λe=>{ e with key:=key,val:=J }) (clock':=clock) (by simp[mG,f1,hl])
     (by
      have:(mG key v es).map (·.1)=es.map (·.1):=by
       simp[mG,f1,map_set]
       have h5:(es.map (·.1))[j]'(s0 NK)=key:=by
        have:=(bQ.1 f5).2;simp[this]
       rw[<- h5];exact set_getElem_self _
      rw[this];exact fN)
     (λk x mm hx C=>by
      simp[mG,f1] at hx;rw[Array.getElem?_modify] at C;by_cases X:k=j
      .subst X;simp only[bi] at C;rw[getElem?_set_self NK] at hx;simp only[bg] at hx;subst hx;simp only[ej] at C;obtain⟨en',_,rfl⟩:=C;exact⟨rfl,hv⟩
      .rw[ai (Ne.symm X)] at C;rw[getElem?_set_ne (Ne.symm X)] at hx
       exact hh k x mm hx C)
    have hj:ms[j]? =some en:=s0 f3
    exact⟨.skip,undef,_,β,by simp[Instr.mapUpdate,run_underlying L.zv,MapKept.run_getObj_map hb,L.check w _ key h2,f2,hj,f4,L.stays w key h2,MapKept.run_setObj_map _ hb],.inr ⟨rfl,rfl⟩,.bu [] [] rfl oS,M,U,λ_ h _=>h⟩
  .cases h
 .cases h
def anj(h:ts.size≠0):ts[0]? =some (ts.getD 0 0):=by
 have:0<ts.size:=by omega
 simp[Array.getD_eq_getD_getElem?,this]
def ahy(hm:bc P F m β w){ty:TypeId}(mb:ts.size≠0){x k:D}{vx vk:Value}(hx:R F β w x vx)(hk:R F β w k vk)(h:Bm P m (ts.getD 0 0) x k=some e)(hp:e.pre):
 bB P F m nx β w e (do Pure.pure (Next.value (<- Builtin.delete_ ts ty #[vx,vk]))):=by
 have xO:=anj mb;generalize ts.getD 0 0=t at*
 unfold Bm at h;split at h
 .rename_i key i s8;rw[II s8 hk];split at h
  .rename_i es hi;cases h;let⟨h1,h2,h3⟩:=hp;have L:=E2 h1;obtain⟨r,ms,clock,hβ,rfl,hb,hl,fN,hh⟩:=hx.IC hm hi;rcases HT L w h2 h3 (ms:=ms.toList) (s0 hl) (λk x m hx hm=>(hh k x m hx (s0 hm)).1) fN with⟨f1,f2,f3⟩|⟨j,d,en,f1,f2,f3,f4,f5⟩
   .let⟨U,X⟩:=K7 (P:=P) hm hβ hb (es':=Au key es) (ms':=ms) (clock':=clock) (by simp[Au,f1,hl]) (by simpa[Au,f1] using fN) (λk x M hx C=>hh k x M (by simpa[Au,f1] using hx) C);exact⟨.value (.tuple #[]),.tuple #[],_,β,by simp[Builtin.delete_,xO,run_underlying L.zv,MapKept.run_getObj_map hb,L.check w _ key h2,f2,MapKept.run_setObj_map _ hb],.inl rfl,.bu [] [] rfl oS,U,X,λ_ h _=>h⟩
   .have NK:j<es.length:=(bQ.1 f5).1;have J:j<ms.size:=by omega
    have he:∀ k,(ms.eraseIdxIfInBounds j)[k]? =if k<j then ms[k]? else ms[k+1]? :=λk=>by
     have h0:(ms.eraseIdxIfInBounds j).toList=ms.toList.eraseIdx j:=by simp[Array.eraseIdxIfInBounds,J]
     rw[<- Array.getElem?_toList,h0,getElem?_eraseIdx];simp
    let⟨U,X⟩:=K7 (P:=P) hm hβ hb (es':=Au key es) (ms':=ms.eraseIdxIfInBounds j) (clock':=clock) (by simp[Au,f1,Array.eraseIdxIfInBounds,J,hl,length_eraseIdx,NK])
     (by simp[Au,f1];exact List.Nodup.sublist ((eraseIdx_sublist es j).map _) fN)
     (λk x M hx C=>by
      simp[Au,f1,getElem?_eraseIdx] at hx;rw[he] at C;split at hx
      .rename_i jQ;rw[bi jQ] at C;exact hh k x M hx C
      .rename_i jQ;rw[ai jQ] at C;exact hh (k+1) x M hx C)
    exact⟨.value (.tuple #[]),.tuple #[],_,β,by simp[Builtin.delete_,xO,run_underlying L.zv,MapKept.run_getObj_map hb,L.check w _ key h2,f2,MapKept.run_setObj_map _ hb],.inl rfl,.bu [] [] rfl oS,U,X,λ_ h _=>h⟩
  .cases h
 .cases h
end
end
section
def Xr{a b:Value}(h:Dt a b=true):ld a=true/\ld b=true:=by
 unfold Dt at h;split at h<;>first|exact⟨rfl,rfl⟩|cases h
def F7(xs ys:List Value):Prop:=xs.length=ys.length/\∀ (k:Nat) (x y:Value),xs[k]? =some x->ys[k]? =some y->Dt x y=true
variable{t:TypeId}
section
variable{P:Program}
def ahu{xs ys:List Value}(h:F7 xs ys):(∀ x∈xs,ld x=true)/\∀ y∈ys,ld y=true:=by
 refine⟨λx hx=>?_,λy hy=>?_⟩
 .let⟨k,hk⟩:=cV hx;have ao:k<ys.length:=by rw[<- h.1];exact(bQ.1 hk).1
  exact(Xr (h.2 k x ys[k] hk (by simp[ao]))).1
 .let⟨k,hk⟩:=cV hy;have ao:k<xs.length:=by rw[h.1];exact(bQ.1 hk).1
  exact(Xr (h.2 k xs[k] y (by simp[ao]) hk)).2
def aiK(w:World)(d:Nat)(ht:zg P t=true){x y:Value}(hx:nd x=BE P t)(hk:Dt x y=true):
 ∃ r:Bool,(Op.equalIn (d+1) t x y).run P w=.ok r w/\(r=true↔x=y):=by
 unfold Dt at hk;unfold BE at hx;split at hk
 .rename_i k a k' b;simp[beq_iff_eq] at hk;subst hk;split at hx<;>simp[nd] at hx;rename_i hu;exact⟨a==b,run_equalIn_int w d t _ _ a b hu,oS⟩
 .rename_i a b;split at hx<;>simp[nd] at hx;rename_i hu;exact⟨a==b,run_equalIn_bool' w d t a b hu,oS⟩
 .rename_i a b;split at hx<;>simp[nd] at hx;rename_i hu;refine⟨a==b,?_,?_⟩
  .rw[run_equalIn_string w d t a b hu,beq_toListBytes]
  .rw[MapKept.bytes_beq];simp
 .cases hk
def step_eq(w:World)(d:Nat)(ht:zg P t=true){xs ys:Array Value}(hk:F7 xs.toList ys.toList){off:Nat}(C:off<xs.size)(M:∀ x,xs.toList[off]? =some x->nd x=BE P t):
 ∃ a b r,(part t xs off).run P w=.ok a w/\(part t ys off).run P w=.ok b w/\(Op.equalIn (d+1) t a b).run P w=.ok r w/\(r=true↔xs.toList[off]? =ys.toList[off]?):=by
 have cC:xs.size=ys.size:=s0 hk.1
 have h0:=ht;simp[zg,aJ,Bool.not_eq_true'] at h0;have J:off<ys.size:=by omega
 let⟨r,hr,U⟩:=aiK (P:=P) w d ht (x:=xs[off]) (y:=ys[off]) (M _ (by simp[C])) (hk.2 off _ _ (by simp[C]) (by simp[J]));refine⟨xs[off],ys[off],r,?_,?_,hr,?_⟩
 .unfold part;simp[HN w (Fh h0.1.2),h0.2,C]
 .unfold part;simp[HN w (Fh h0.1.2),h0.2,J]
 .rw[U];simp[C,J]
def WZ(w:World)(d:Nat){e:TypeId}(ht:zg P e=true){xs ys:Array Value}(hk:F7 xs.toList ys.toList):∀ (is:List Nat),(∀ i∈is,i<xs.size/\∀ x,xs.toList[i]? =some x->nd x=BE P e)->
 ∃ r:Bool,(Op.eqItems (d+1) e (P.cellsOf e) xs ys is).run P w=.ok r w/\(r=true↔∀ i∈is,xs.toList[i]? =ys.toList[i]?)
 |[],_=>⟨true,by simp[Op.eqItems],oS⟩
 |i::is,h=>by
  have hc:P.cellsOf e=1:=by simp only[zg,aJ,beq_iff_eq] at ht;exact ht.1.1.2
  let⟨a,b,r,X,p2,p3,C⟩:=step_eq w d ht hk (h i oS).1 (h i oS).2;let⟨r',J,M⟩:=WZ w d ht hk is λj hj=>h j (by simp[hj]);rw[hc] at J ⊢;simp only[Op.eqItems,Nat.mul_one,Sem.run_bind,X,p2,p3,Result.andThen_ok];cases r
  .refine⟨false,oS,?_⟩;simp only[Bool.false_eq_true,false_iff] at C ⊢;intro U;exact C (U i oS)
  .refine⟨r',s0 J,?_⟩;rw[M]
   exact⟨λh j hj=>by
    rcases mem_cons.1 hj with rfl|hj
    .exact C.1 rfl
    .exact h j hj,λh j hj=>h j (by simp[hj])⟩
def WR(w:World)(d:Nat){xs ys:Array Value}(hk:F7 xs.toList ys.toList):∀ (fs:List Field),(∀ f∈fs,f.name≠"_"/\zg P f.type=true/\f.offset<xs.size/\∀ x,xs.toList[f.offset]? =some x->nd x=BE P f.type)->
 ∃ r:Bool,(Op.eqFields (d+1) xs ys fs).run P w=.ok r w/\(r=true↔∀ f∈fs,xs.toList[f.offset]? =ys.toList[f.offset]?)
 |[],_=>⟨true,by simp[Op.eqFields],oS⟩
 |f::fs,h=>by
  let⟨hn,ht,U,xM⟩:=h f oS;let⟨a,b,r,p1,p2,p3,C⟩:=step_eq w d ht hk U xM;let⟨r',X,J⟩:=WR w d hk fs λg hg=>h g (by simp[hg]);simp only[Op.eqFields,hn,ne_eq,not_false_eq_true,if_true,Sem.run_bind,p1,p2,p3,Result.andThen_ok];cases r
  .refine⟨false,oS,?_⟩;simp only[Bool.false_eq_true,false_iff] at C ⊢;intro M;exact C (M f oS)
  .refine⟨r',s0 X,?_⟩;rw[J]
   exact⟨λh j hj=>by
    rcases mem_cons.1 hj with rfl|hj
    .exact C.1 rfl
    .exact h j hj,λh j hj=>h j (by simp[hj])⟩
def akX:∀ {a b:List Value},a.all ld=true->(lf a b=true↔a=b):=λh=>⟨Ru,λe=>by subst e;exact Qj h⟩
def W0(w:World){ks:List Nat}(ht:Ds P t=some ks){xs ys:List Value}(hk:F7 xs ys)(U:xs.map nd=ks):
 (Op.equal t (.agg xs.toArray) (.agg ys.toArray)).run P w=.ok (lf xs ys) w:=by
 let⟨s1,s2⟩:=ahu hk;have bd:xs.all ld=true:=bK.2 s1
 have fin:∀ r:Bool,(r=true↔xs=ys)->r=lf xs ys:=λr h=>by
  have:=akX (b:=ys) bd;cases r<;>cases hv:lf xs ys<;>simp_all
 unfold Ds at ht;split at ht
 .rename_i n e hu;split at ht
  .rename_i hc;simp only[aJ,beq_iff_eq] at hc;simp only[bg] at ht;subst ht;have hlen:xs.length=n:=by have:=congrArg length U;simpa using this
   have J:=hc.1;let⟨i,hi⟩:=Option.isSome_iff_exists.1 (kB (show a8 P e=true by simp only[zg,aJ] at J;exact J.1.2))
   let⟨r,hr,ur⟩:=WZ (P:=P) w 9998 J (xs:=xs.toArray) (ys:=ys.toArray) (s0 hk) (range n) λi hi=>by
    simp only[mem_range] at hi;refine⟨by simp;omega,λx hx=>?_⟩;have:(xs.map nd)[i]? =some (nd x):=by simp at hx;simp[hx]
    rw[U] at this;simp[getElem?_replicate,hi] at this;exact this.symm
   have e1:=run_equalIn_array (P:=P) (w:=w) 9999 (t:=t) (e:=e) (n:=n) xs.toArray ys.toArray hu hi;show(Op.equalIn (9999+1) t _ _).run P w=_;rw[e1,hr,fin r];rw[ur];constructor
   .intro h;apply ext_getElem?;intro i;rcases Nat.lt_or_ge i n with ao|bt
    .simpa using h i (s0 ao)
    .rw[getElem?_eq_none oG,getElem?_eq_none (by rw[<- hk.1];omega)]
   .rintro rfl i _;rfl
  .cases ht
 .rename_i fs hu;split at ht
  .rename_i hc;simp only[aJ,beq_iff_eq,bK,bne_iff_ne,ne_eq,Bool.not_eq_true'] at hc;let⟨⟨hf,X⟩,cx⟩:=hc;simp only[bg] at ht;subst ht;have hlen:xs.length=fs.toList.length:=by have:=congrArg length U;simpa using this
   have rN:∀ (l:List Field) (o:Nat),P.runs o l=some (o+l.length)->(∀ f∈l,P.cellsOf f.type=1)->∀ (j:Nat) (f:Field),l[j]? =some f->f.offset=o+j:=by
    intro l
    induction l with
    |nil=>intro o _ _ j f hj;simp at hj
    |cons g l ih=>
     intro o C h1 j f hj;simp only[Program.runs] at C;split at C
     .rename_i ED;have J3:=h1 g oS;rw[J3] at C;cases j with
      |zero=>simp at hj;subst hj;simpa using ED
      |succ j=>
       have:=ih (o+1) (by rw[C];simp;omega) (λf hf=>h1 f (by simp[hf])) j f (s0 hj);omega
     .cases C
   have J:∀ f∈fs.toList,P.cellsOf f.type=1:=λf M=>by
    have:=(hf f M).2;simp only[zg,aJ,beq_iff_eq] at this;exact this.1.1.2
   have ow:=rN fs.toList 0 (s0 X) J
   let⟨r,hr,ur⟩:=WR (P:=P) w 9998 (xs:=xs.toArray) (ys:=ys.toArray) (s0 hk) fs.toList λf M=>by
    let⟨j,hj⟩:=cV M;have cW:j<fs.toList.length:=(bQ.1 hj).1;have C:f.offset=j:=by have:=ow j f hj;omega
    refine⟨(hf f M).1,(hf f M).2,by rw[C];simp;simp at hlen cW;omega,λx hx=>?_⟩;rw[C] at hx;have h1:(xs.map nd)[j]? =some (nd x):=by simp at hx;simp[hx]
    rw[U,getElem?_map,hj] at h1;simpa using h1.symm
   have tq:P.fieldsOf t=fs:=by simp[Program.fieldsOf,hu]
   have e1:=run_equalIn_struct (P:=P) w 9999 t xs.toArray ys.toArray (by rw[tq];exact hu) cx;show(Op.equalIn (9999+1) t _ _).run P w=_;rw[e1,tq,hr,fin r];rw[ur];constructor
   .intro h;apply ext_getElem?;intro j;rcases Nat.lt_or_ge j fs.toList.length with ao|bt
    .have h1:=h fs.toList[j] (eh ao);have C:=ow j fs.toList[j] oS;rw[Nat.zero_add] at C;rw[C] at h1;simpa using h1
    .rw[getElem?_eq_none oG,getElem?_eq_none (by rw[<- hk.1];omega)]
   .rintro rfl f _;rfl
  .cases ht
 .cases ht
variable{F:Nat->Prop}{m:Mem}{nx:Nat}{β:aZ}{w:World}
def Qk:∀ {xs ys:List D} {a b:List Value},s6 xs ys=some (a,b)->xs=a.map D.s/\ys=b.map D.s/\F7 a b
 |[],[],a,b,h=>by
  simp[s6] at h;obtain⟨rfl,rfl⟩:=h;exact⟨rfl,rfl,rfl,oS⟩
 | .s x::xs,.s y::ys,a,b,h=>by
  simp only[s6] at h;split at h
  .rename_i hk;simp only[ej] at h;let⟨⟨a',J⟩,h1,h2⟩:=h;simp only[dp] at h2;obtain⟨rfl,rfl⟩:=h2;let⟨C,e2,e3,e4⟩:=Qk h1;refine⟨by simp[C],by simp[e2],by simp[e3],λk u v hu hv=>?_⟩;cases k with
   |zero=>simp at hu hv;subst hu;subst hv;exact hk
   |succ k=>exact e4 k u v (s0 hu) (s0 hv)
  .cases h
 |[],_::_,_,_,h=>by simp[s6] at h
 |_::_,[],_,_,h=>by simp[s6] at h
 | .u::_,_::_,_,_,h | .ub::_,_::_,_,_,h | .dw _ _::_,_::_,_,_,h | .agg _::_,_::_,_,_,h | .bu _::_,_::_,_,_,h | .z::_,_::_,_,_,h | .sl _ _::_,_::_,_,_,h | .pt _::_,_::_,_,_,h
 | .rs _ _ _::_,_::_,_,_,h | .rp _ _::_,_::_,_,_,h | .mp _::_,_::_,_,_,h | .fn _ _ _::_,_::_,_,_,h=>by simp[s6] at h
 | .s _::_,.u::_,_,_,h | .s _::_,.ub::_,_,_,h | .s _::_,.dw _ _::_,_,_,h | .s _::_,.agg _::_,_,_,h | .s _::_,.bu _::_,_,_,h | .s _::_,.z::_,_,_,h | .s _::_,.sl _ _::_,_,_,h | .s _::_,.pt _::_,_,_,h
 | .s _::_,.rs _ _ _::_,_,_,h | .s _::_,.rp _ _::_,_,_,h | .s _::_,.mp _::_,_,_,h | .s _::_,.fn _ _ _::_,_,_,h=>by simp[s6] at h
def LP{a:List Value}{v:Value}(h:R F β w (.agg (a.map D.s)) v):v=.agg a.toArray:=by
 obtain⟨vs,rfl,hl,hr⟩:=h.wK;congr 2;apply ext_getElem?;intro k;rcases Nat.lt_or_ge k a.length with ao|C
 .have hk:k<vs.length:=by rw[hl];simpa using ao
  have:=(hr k (.s a[k]) vs[k] (by simp[ao]) (by simp[hk])).du.1;simp[ao,hk,this]
 .rw[getElem?_eq_none (by rw[hl];simpa using C),getElem?_eq_none C]
def aiL(hm:bc P F m β w){op:BinOp}(ox oy:Operand){xs ys:List D}{x y:Value}{q:Prop×D}(hx:R F β w (.agg xs) x)(hy:R F β w (.agg ys) y)(h:Dc P op t xs ys=some q)(hp:q.1):
 bB P F m nx β w { pre:=q.1,val:=q.2 } ((do eqGuard op t ox oy x y;binOp op t x y)>>=λr=>Pure.pure (Next.value r)):=by
 unfold Dc at h;split at h
 .rename_i J z hf hz;cases h;let⟨a,b⟩:=z;let⟨C,e2,hk⟩:=Qk hz;subst C e2;rw[LP hx,LP hy];have:=W0 (P:=P) w hf hk hp.1;refine bB.val hm (v:=.bool (lf a b)) ?_ (.s _ rfl);have e3:(Op.equalIn 10000 t (.agg a.toArray) (.agg b.toArray)).run P w=.ok (lf a b) w:=this;simp[Sem.run_bind,run_eqGuard_agg (P:=P) w .eql t ox oy _ _ hp.2,Result.andThen_ok,run_eql_struct,e3,Sem.run_pure]
 .rename_i J z hf hz;cases h;let⟨a,b⟩:=z;let⟨C,e2,hk⟩:=Qk hz;subst C e2;rw[LP hx,LP hy];have:=W0 (P:=P) w hf hk hp.1;refine bB.val hm (v:=.bool !(lf a b)) ?_ (.s _ rfl);have e3:(Op.equalIn 10000 t (.agg a.toArray) (.agg b.toArray)).run P w=.ok (lf a b) w:=this;simp[Sem.run_bind,run_eqGuard_agg (P:=P) w .neq t ox oy _ _ hp.2,Result.andThen_ok,run_neq_struct,e3,Sem.run_pure]
 .cases h
end
end
section
variable{P:Program}{F:Nat->Prop}{m:Mem}{nx:Nat}{β:aZ}{w:World}
def aao{ps:Array (Nat×Operand)}{ρ:Operand->D}{a:Act}(h:∀ x∈(ps.toList.map (·.2)),R F β w (ρ x) (a.eval x)):
 (ps.toList.map λq=>(q.1,ρ q.2)).length=(ps.map λ(i,x)=>(i,a.eval x)).size/\
 ∀ (k:Nat) (p:Nat×D) (q:Nat×Value),(ps.toList.map λq=>(q.1,ρ q.2))[k]? =some p->(ps.map λ(i,x)=>(i,a.eval x))[k]? =some q->p.1=q.1/\R F β w p.2 q.2:=by
 refine⟨oS,λk p q hk hq=>?_⟩;simp only[getElem?_map,Array.getElem?_map] at hk hq;cases C:ps[k]? with
 |none=>simp[C] at hq
 |some y=>
  simp[C] at hk hq;subst hk;subst hq;exact⟨rfl,h _ (mem_map.2 ⟨y,by simpa using Array.mem_of_getElem? C,rfl⟩)⟩
def FG{xs:Array Operand}{ρ:Operand->D}{a:Act}(h:∀ x∈xs,R F β w (ρ x) (a.eval x)):
 (xs.toList.map a.eval).length=(xs.toList.map ρ).length/\∀ (k:Nat) (d:D) (v:Value),(xs.toList.map ρ)[k]? =some d->(xs.toList.map a.eval)[k]? =some v->R F β w d v:=by
 refine⟨oS,λk d v hk hv=>?_⟩;simp only[getElem?_map] at hk hv;cases hx:xs.toList[k]? with
 |none=>simp[hx] at hk
 |some x=>
  simp[hx] at hk hv;subst hk;subst hv;exact h x (s0 (bD hx))
def T4{x:Option Operand}{ρ:Operand->D}{a:Act}(h:∀ y,x=some y->R F β w (ρ y) (a.eval y)):Ro F β w (x.map ρ) (x.map a.eval):=by
 cases x with
 |none=>exact .inl ⟨rfl,rfl⟩
 |some y=>exact .inr ⟨_,_,rfl,rfl,h y rfl⟩
def bB.of_eq{e:eC}{s:Sem Next}(h:e.bF=[]/\e.new=0/\bB P F m nx β w e s):bB P F m nx β w e s:=h.2.2
def agD(hm:bc P F m β w){b:Builtin}{ts:Array TypeId}{ty:TypeId}{cs:Array Bool}{ds:List D}{vs:List Value}{e:eC}(hn:e.new=1->β nx=none)(hl:vs.length=ds.length)
 (hR:∀ (k:Nat) (d:D) (v:Value),ds[k]? =some d->vs[k]? =some v->R F β w d v) (C:ts.size=ds.length) (h:gz P m nx b ts ds=some e) (hp:e.pre):bB P F m nx β w e (builtin b ts ty cs vs.toArray):=by
 cases b
 case len=>
  match ds,vs,hl,h,hR with
  |[d],[v],_,h,hR=>
   simp only[gz] at h;exact bB.of_eq (ann hm (by simp at C;omega) (hR 0 d v rfl rfl) h hp)
  |[],_,_,h,_=>simp[gz] at h
  |_::_::_,_,_,h,_=>simp[gz] at h
 case append=>
  match ds,vs,hl,h,hR with
  |[s,x],[v,u],_,h,hR=>
   simp only[gz] at h;split at h
   .rename_i J
    match ts,C,J,h with
    |⟨[t,t']⟩,_,J,h=>
     simp[Array.getD_eq_getD_getElem?] at J h;subst J
     have U:e.new=1:=by
      unfold vt at h;simp only at h;split at h
      .cases h
      .split at h
       .simp only[bg] at h;rw[<- h]
       .split at h
        .simp only[bg] at h;rw[<- h]
        .cases h
       .cases h
     exact ahH hm (hn U) (hR 0 s v rfl rfl) (hR 1 x u rfl rfl) h hp
    |⟨[]⟩,C,_,_=>simp at C
    |⟨[_]⟩,C,_,_=>simp at C
    |⟨_::_::_::_⟩,C,_,_=>simp at C
   .cases h
  |[],_,_,h,_=>simp[gz] at h
  |[_],_,_,h,_=>simp[gz] at h
  |_::_::_::_,_,_,h,_=>simp[gz] at h
 case min=>
  match ds,vs,hl,h,hR with
  |[.s (.int k a),.s (.int k' b)],[v,u],_,h,hR=>
   simp only[gz,bg] at h;subst h;simp only at hp;subst hp;exact aal hm (hR 0 _ v rfl rfl) (hR 1 _ u rfl rfl)
  |ds,vs,hl,h,hR=>
   unfold gz at h;split at h<;>simp_all;subst h;subst hp
   match vs,hl with
   |[v,u],_=>exact aal hm (hR 0 _ v rfl rfl) (hR 1 _ u rfl rfl)
 case clear=>
  match ds,vs,hl,h,hR with
  |[d],[v],_,h,hR=>
   cases d with
   |rs i off n=>
    simp only[gz] at h;cases hi:m i with
    |none=>simp[hi] at h
    |some r=>
    cases r with
    |map es=>simp[hi] at h
    |raw es=>simp[hi] at h
    |bs u x T=>simp[hi] at h
    |lp k=>simp[hi] at h
    |lq f r=>simp[hi] at h
    |cells c X=>
     simp only[hi,bg] at h;subst h;let⟨h1,h2,M⟩:=hp;exact aiZ hm (by simp at C;omega) (hR 0 _ v rfl rfl) hi h1 h2 M
   |_=>simp[gz] at h
  |[],_,_,h,_=>simp[gz] at h
  |_::_::_,_,_,h,_=>simp[gz] at h
 case delete=>
  match ds,vs,hl,h,hR with
  |[x,k],[v,u],_,h,hR=>exact ahy hm (by simp at C;omega) (hR 0 x v rfl rfl) (hR 1 k u rfl rfl) h hp
  |[],_,_,h,_=>simp[gz] at h
  |[_],_,_,h,_=>simp[gz] at h
  |_::_::_::_,_,_,h,_=>simp[gz] at h
 all_goals (simp[gz] at h)
def ai1(hm:bc P F m β w){o:Oper}{env:Env}{a:Act}{e:eC}(hn:e.new=1->β nx=none)(hE:jd F β w env a)(ha:asks env o.op)(h:bw P o.op (bO env o.op) m nx=some e)(hp:e.pre):
 bB P F m nx β w e (execOp a.eval o):=by
 let⟨dst,op,type,pos,after,guard⟩:=o;simp only at ha h
 have hR:(∀ c x y,op≠ .pick c x y)->∀ x∈op.operands.toList,R F β w (bO env op x) (a.eval x):=λJ5 x hx=>by
  have h1:bO env op x=(opd env x).core:=by cases op<;>first|rfl|exact absurd rfl (J5 _ _ _)
  have h2:(opd env x).ask:=by cases op<;>first|exact ha x hx|exact absurd rfl (J5 _ _ _)
  rw[h1];exact(hE.opd x).Bk _ h2
 unfold execOp;cases op with
 |move x=>
  simp only[bw,bg] at h;subst h;exact bB.val hm oS (hR oS x cN)
 |assign x=>
  simp only[bw,bg] at h;subst h;exact bB.val hm oS (hR oS x cN)
 |pick c x y=>
  simp only[bw,bO] at h;cases hc:(opd env c).core.iw with
  |none=>simp[hc] at h
  |some t=>
  simp only[hc,bg] at h;subst h
  have Oz:a.eval c=.bool t:=by
   have h1:=(hE.opd c).Bk _ ha;unfold D.iw at hc;split at hc
   .rename_i b he;cases hc;rw[he] at h1;exact h1.du.1
   .cases hc
  exact ak7 hm Oz (hE.opd x) (hE.opd y) hp.1 hp.2
 |alloc t=>
  simp only[bw,bg] at h;subst h;exact aiV hm (hn rfl) hp
 |box t x=>
  simp only[bw,bg] at h;subst h;exact ank hm (hn rfl) (hR oS x cN) hp
 |build t ps=>
  simp only[bw] at h;let⟨q1,q2⟩:=aao (F:=F) (β:=β) (w:=w) (ps:=ps) (ρ:=bO env (.build t ps)) (a:=a) (λx hx=>hR oS x (by simpa[Op.operands] using hx));split at h
  .rename_i fs hu;cases hf:mC (λi=>Option.map (λf=>(f.offset,P.cellsOf f.type)) fs[i]?) (bN P t) (ps.toList.map λq=>(q.1,bO env (.build t ps) q.2)) with
   |none=>simp[hf] at h
   |some cs=>
    simp only[hf,Option.map_some,bg] at h;subst h;exact age hm hp.1 hu hp.2 q1 q2 hf
  .rename_i n e' hu;cases hf:mC (λi=>some (i*P.cellsOf e',P.cellsOf e')) (bN P t) (ps.toList.map λq=>(q.1,bO env (.build t ps) q.2)) with
   |none=>simp[hf] at h
   |some cs=>
    simp only[hf,Option.map_some,bg] at h;subst h;exact agm hm hp.1 hu hp.2 q1 q2 hf
  .cases h
 |buildSlice t n ps=>
  simp only[bw] at h;let⟨q1,q2⟩:=aao (F:=F) (β:=β) (w:=w) (ps:=ps) (ρ:=bO env (.buildSlice t n ps)) (a:=a) (λx hx=>hR oS x (by simpa[Op.operands] using hx));cases hf:mC (λi=>some (i*P.cellsOf (aT P t),P.cellsOf (aT P t))) (eI n (bN P (aT P t))) (ps.toList.map λq=>(q.1,bO env (.buildSlice t n ps) q.2)) with
  |none=>simp[hf] at h
  |some cs=>
   simp only[hf,Option.map_some,bg] at h;subst h;let⟨_,J,M,p4⟩:=hp;exact agr hm (hn rfl) M J p4 q1 q2 hf
 |load t x=>
  have hx:=hR oS x cN;simp only[bw] at h;split at h
  .rename_i cs he;rw[he] at hx;simp only[bg] at h;subst h;exact ag7 hm hx hp.1 hp.2
  .rename_i i off he;rw[he] at hx;split at h
   .rename_i cs ty hi;simp only[bg] at h;subst h;exact ag8 hm hx hi hp.1 hp.2
   .cases h
  .cases h
 |store t x y=>
  have hx:=hR oS x cN;have hy:=hR oS y cN;simp only[bw] at h;split at h
  .rename_i i off he;rw[he] at hx;split at h
   .rename_i cs ty hi;simp only[bg] at h;subst h;let⟨X,J,M,p4⟩:=hp;exact aiU hm hx hy hi X J M p4
   .cases h
  .cases h
 |nilCheck x=>
  have hx:=hR oS x cN;simp only[bw] at h;split at h
  .rename_i cs he;rw[he] at hx;simp only[bg] at h;subst h;let⟨ad,h1,h2⟩:=agn (pre:=True) (nx:=nx) hm hx;simp only[h1] at h2 ⊢;exact h2
  .rename_i i off he;rw[he] at hx;split at h
   .rename_i r hi;simp only[bg] at h;subst h;let⟨ad,h1,h2⟩:=ago (pre:=True) (nx:=nx) (rd:=[i]) hm hx hi;simp only[h1] at h2 ⊢;exact h2
   .cases h
  .cases h
 |binOp op t x y yt=>
  have hx:=hR oS x cN;have hy:=hR oS y cN;simp only[bw] at h;split at h
  .rename_i e' U;simp only[bg] at h;subst h;unfold p6 at U;split at U
   .rename_i es n he;simp only[bg] at U;subst U;rw[he] at hx;exact ahF hm t x (.const (.slice none 0 0)) hx hp
   .rename_i i off he;split at U
    .rename_i r hi;simp only[bg] at U;subst U;rw[he] at hx;exact Xw hm .eql t x _ hx hi hy hp (.inl ⟨rfl,rfl⟩)
    .cases U
   .rename_i i off he;split at U
    .rename_i r hi;simp only[bg] at U;subst U;rw[he] at hx;exact Xw hm .neq t x _ hx hi hy hp (.inr ⟨rfl,rfl⟩)
    .cases U
   .cases U
  .unfold s7 at h;split at h
   .rename_i b1 b2 C e2;rw[C] at hx;rw[e2] at hy;split at h
    .simp only[Option.map_some,bg] at h;subst h;exact W7 hm .eql t x y hx hy hp (.inl ⟨rfl,rfl⟩)
    .simp only[Option.map_some,bg] at h;subst h;exact W7 hm .neq t x y hx hy hp (.inr ⟨rfl,rfl⟩)
    .simp at h
   .rename_i v1 v2 _ C e2;rw[C] at hx;rw[e2] at hy;cases hb:rM op v1 v2 with
    |none=>simp[hb] at h
    |some q=>
     simp only[hb,Option.map_some,bg] at h;subst h;exact ak3 hm op t x y hx hy hb hp
   .rename_i xs ys C e2;rw[C] at hx;rw[e2] at hy;cases hb:Dc P op t xs ys with
    |none=>simp[hb] at h
    |some q=>
     simp only[hb,Option.map_some,bg] at h;subst h;exact aiL hm x y hx hy hb hp
   .simp at h
 |unOp op t x=>
  have hx:=hR oS x cN;simp only[bw] at h;split at h
  .rename_i v he;rw[he] at hx;cases hb:G7 op v with
   |none=>simp[hb] at h
   |some q=>
    simp only[hb,Option.map_some,bg] at h;subst h;exact anm hm op hx hb
  .cases h
 |convert src dst x=>
  have hx:=hR oS x cN;simp only[bw] at h;split at h
  .rename_i k k' n hd he;rw[he] at hx;simp only[bg] at h;subst h;exact agL hm src dst hx hd (Fh hp)
  .rename_i e' b hd he;rw[he] at hx;split at h
   .rename_i lP;simp only[bg] at h;subst h;exact aiY hm hx hp.1 hd lP hp.2
   .cases h
  .cases h
 |makeFunc f fs cs=>
  simp only[bw,bg] at h;subst h;let⟨q1,q2⟩:=FG (F:=F) (β:=β) (w:=w) (xs:=fs) (ρ:=bO env (.makeFunc f fs cs)) (a:=a) (λx hx=>hR oS x (by simp[Op.operands];exact .inl hx));let⟨q3,q4⟩:=FG (F:=F) (β:=β) (w:=w) (xs:=cs) (ρ:=bO env (.makeFunc f fs cs)) (a:=a) (λx hx=>hR oS x (by simp[Op.operands];exact .inr hx));have:=agM (pre:=True) (nx:=nx) hm f q1 q3 q2 q4;have C:(fs.toList.map a.eval).toArray=fs.map a.eval:=by apply Array.ext';simp
  have e2:(cs.toList.map a.eval).toArray=cs.map a.eval:=by apply Array.ext';simp
  rw[C,e2] at this;exact this
 |makeMap t r=>
  simp only[bw] at h;split at h
  .simp only[bg] at h;subst h;exact aha hm (hn rfl)
  .cases h
 |makeSlice t l c=>
  have hx:=hR oS l cN;have hy:=hR oS c cN;simp only[bw] at h;split at h
  .rename_i n k C e2;rw[C] at hx;rw[e2] at hy;simp only[bg] at h;subst h;let⟨X,J,M,p4,p5⟩:=hp;subst J;show bB P F m nx β w _ (do Pure.pure (Next.value (<- Instr.makeSlice t (a.eval l) (a.eval c))));rw[hx.du.1,hy.du.1];exact agz hm (hn rfl) X M p4 p5
  .cases h
 |slice t x lo hi mx=>
  have hx:=hR oS x cN;simp only[bw] at h;exact bB.of_eq (aiX hm hx (T4 λy hy=>hR oS y (by simp[Op.operands,hy])) (T4 λy hy=>hR oS y (by simp[Op.operands,hy])) (T4 λy hy=>hR oS y (by simp[Op.operands,hy])) h hp)
 |fieldAddr t x k=>
  have hx:=hR oS x cN;simp only[bw] at h;split at h
  .rename_i off ft cs hf he;rw[he] at hx;simp only[bg] at h;subst h;exact agf hm hx hf hp
  .rename_i off ft i o hf he;rw[he] at hx;split at h
   .rename_i r hi;simp only[bg] at h;subst h;exact agh hm hx hi hf hp
   .cases h
  .cases h
 |field t x k=>
  have hx:=hR oS x cN;simp only[bw] at h;split at h
  .rename_i off ft cs hf he;rw[he] at hx;simp only[bg] at h;subst h;exact aiW hm hx hf hp.1 hp.2
  .cases h
 |indexAddr t x i=>
  have hx:=hR oS x cN;have hy:=hR oS i cN;simp only[bw] at h;split at h
  .rename_i es n kk k C e2;rw[C] at hx;rw[e2] at hy;simp only[bg] at h;subst h;let⟨X,J,M,_⟩:=hp;exact agi hm hx hy X J M
  .rename_i j off n kk k C e2;rw[C] at hx;rw[e2] at hy;split at h
   .rename_i r hj;simp only[bg] at h;subst h;let⟨X,J,M⟩:=hp;exact agj hm hx hj hy X J M
   .cases h
  .rename_i j off kk k C e2;rw[C] at hx;rw[e2] at hy;split at h
   .rename_i r hj;simp only[bg] at h;subst h;let⟨X,J,M⟩:=hp;exact agd hm hx hj hy X J M
   .cases h
  .cases h
 |index t x i=>
  have hx:=hR oS x cN;have hy:=hR oS i cN;simp only[bw] at h;split at h
  .rename_i b kk k C e2;rw[C] at hx;rw[e2] at hy;simp only[bg] at h;subst h;let⟨X,J,M⟩:=hp;exact agA hm hx hy X J M
  .rename_i cs kk k C e2;rw[C] at hx;rw[e2] at hy;simp only[bg] at h;subst h;let⟨X,J,M,p4⟩:=hp;exact agB hm hx hy X J M p4
  .cases h
 |lookup t x k ok=>exact ahw hm (hR oS x cN) (hR oS k cN) (by simpa only[bw] using h) hp
 |mapUpdate t x k v=>exact Xt hm (hR oS x cN) (hR oS k cN) (hR oS v cN) (by simpa only[bw] using h) hp
 |insert t x k v=>exact Xt hm (hR oS x cN) (hR oS k cN) (hR oS v cN) (by simpa only[bw] using h) hp
 |extract x k=>
  have hx:=hR oS x cN;simp only[bw] at h;split at h
  .rename_i cs C;rw[C] at hx;simp only[bg] at h;subst h;exact ag' hm hx hp
  .cases h
 |call c=>
  simp only[bw] at h;split at h
  .rename_i b hb;split at h
   .rename_i mb;let⟨q1,q2⟩:=FG (F:=F) (β:=β) (w:=w) (xs:=c.args) (ρ:=bO env (.call c)) (a:=a) (λx hx=>hR oS x (by simp[Op.operands,Call.operands,hb];exact hx));have:=agD hm (b:=b) (ts:=c.argTypes) (ty:=type) (cs:=c.args.map λ| .const _=>true|_=>false) (e:=e) hn q1 q2 (s0 mb) h hp;let⟨n,v,w',β',h1,h2⟩:=this;refine⟨n,v,w',β',?_,h2⟩;simp only[resolve,hb,Sem.run_bind,Sem.run_pure,Result.andThen_ok,invoke];have C:(c.args.toList.map a.eval).toArray=c.args.map a.eval:=by apply Array.ext';simp
    rw[<- C];exact h1
   .cases h
  .cases h
 |_=>simp[bw] at h
end
section
variable{d:D}{v:Value}{f:FuncId}{args:List D}{r:D}{vs:Array Value}{bR:List Nat}
section
variable{P:Program}{F F':Nat->Prop}{m:Mem}{nx:Nat}{β β':aZ}{w w':World}
def R.lift(h:R F j9 w d v)(hf:∀ b,¬ F b->¬ F' b/\β.free b):R F' β w d v:=
 h.gen (bY _) (λb _ h1 _=>⟨sS.refl w b,(hf b h1).2,(hf b h1).1⟩) λi p _ hp=>by cases hp
def HJ{b:Nat}(h:¬ owned F β b):¬ F b/\β.free b:=by
 unfold owned at h;have h1:¬ F b:=λe=>h (.inl e);refine⟨h1,?_⟩;by_cases hb:β.free b
 .exact hb
 .exact absurd (.inr hb) h
def akL(hm:bc P F m β w){b:Nat}(h:owned F β b):b<w.heap.size:=by
 rcases h with h|h
 .exact hm.fb.lt b h
 .unfold aZ.free at h;simp only[Classical.not_forall] at h;let⟨i,p,hp,hb⟩:=h;exact hm.lt i p b hp (Decidable.not_not.1 hb)
def YX(hm:bc P F m β w):FB (owned F β) w:=hm.fb.next (λb hb=>akL hm hb) (λ_ h=>.inl h) λ_ _ _=>rfl
def R4(hs:d.ld=true)(h:R F β w d v):R F' β' w' d v:=by
 have bu:∀ cs:List D,(∀ d∈cs,∃ x,d=.s x)->R F β w (.bu cs) v->R F' β' w' (.bu cs) v:=λcs hc h=>by
  obtain⟨vs,rfl,hl,hr⟩:=h.Fq;refine .bu cs vs hl λk d u hk hu=>?_;obtain⟨x,rfl⟩:=hc d (bD hk);have:=(hr k _ u hk hu).du;rw[this.1];exact .s x this.2
 unfold D.ld at hs;split at hs
 .rw[h.du.1];exact .s _ h.du.2
 .obtain⟨b,rfl⟩:=h.IB;exact .ub b
 .exact bu _ oS h
 .exact bu _ oS h
 .exact bu _ oS h
 .cases hs
def XW(h:Kept w w'):Step β w β w':=Ff h.1 h.2.1 h.2.2
def bc.kept(hm:bc P F m β w)(h:Kept w w'):bc P F m β w':=hm.ext h.1 h.2.1 h.2.2
def XX(hm:bc P F m β w)(hc:aH P f args r)(hR:Rs F β w args vs):
 Calls P f vs w λe w'=>∃ v,e=.returned v/\R F β w' r v/\bc P F m β w'/\Step β w β w':=
 (hc.2.2 (owned F β) w vs (YX hm) ⟨hR.1,λk d v hd hv=>hc.2.1 d (bD hd) F β w v (hR.2 k d v hd hv)⟩).mono
  λe w' ⟨v,he,hr,hk⟩=>⟨v,he,hr.lift λb hb=>HJ hb,hm.kept hk,XW hk⟩
def Nc(C:∀ i∈bR,∀ r,m i=some r->∃ p,β i=some p/\dG P F β w r p/\∀ b,p.cn=some b->¬ F b):∀ {aS bs:List D},nP P bR m aS bs->aS.length=bs.length/\∀ (k:Nat) (a b:D),aS[k]? =some a->bs[k]? =some b->∀ v,R F β w a v->R F j9 w b v
 |[],[],_=>⟨rfl,oS⟩
 |a::aS,b::bs,h=>by
  let⟨h1,h2⟩:=Nc C h.2;refine⟨by simp[h1],λk x y hx hy v hv=>?_⟩;cases k with
  |zero=>
   simp at hx hy;subst hx;subst hy;exact h.1 F β w v C hv
  |succ k=>exact h2 k x y (s0 hx) (s0 hy) v hv
 |[],_::_,h=>h.elim
 |_::_,[],h=>h.elim
def SM(r:D):Prop:=∀ (F F':Nat->Prop) (β β':aZ) (w w':World) (v:Value),R F β w r v->R F' β' w' r v
def ahr(h:r.ld=true):SM r:=λ_ _ _ _ _ _ _=>R4 h
def XY(hm:bc P F m β w){J:List D}{C:Mem}(U:nP P bR C args J)(M:∀ i∈bR,C i≠none->m i=C i)(hc:aH P f J r)(hs:SM r)(hR:Rs F β w args vs):
 Calls P f vs w λe w'=>∃ v,e=.returned v/\R F β w' r v/\bc P F m β w'/\Step β w β w':=by
 let⟨h1,h2⟩:=Nc (P:=P) (F:=F) (β:=β) (w:=w) (λi hi r hr=>by
  let⟨p,hp,aF⟩:=hm.row i r (by rw[M i hi (by simp[hr])];exact hr)
  exact⟨p,hp,aF,λb hb=>hm.nf i p b hp hb⟩) U
 refine(hc.2.2 F w vs hm.fb ⟨by rw[hR.1,h1],λk d v hd hv=>?_⟩).mono λe w' ⟨v,he,hr,hk⟩=>⟨v,he,hs _ _ _ _ _ _ _ hr,hm.kept hk,XW hk⟩
 have ao:k<args.length:=by rw[h1];exact(bQ.1 hd).1
 exact h2 k args[k] d (by simp[ao]) hd v (hR.2 k args[k] v (by simp[ao]) hv)
def akM(hm:bc P F m β w)(hn:β nx=none){es:List D}{n:Nat}{t:TypeId}(hc:pL P f args es n t)(hR:Rs F β w args vs):
 Calls P f vs w λe w'=>∃ v β',e=.returned v/\R F β' w' (.rs nx 0 n) v/\bc P F (up m nx (some (.cells es t))) β' w'/\Step β w β' w'/\∀ i,i≠nx->β' i=β i:=by
 refine(hc.2.2 (owned F β) w vs (YX hm) ⟨hR.1,λk d v hd hv=>hc.2.1 d (bD hd) F β w v (hR.2 k d v hd hv)⟩).mono ?_;rintro e w' ⟨v,p,he,SN,J,aF,hv,hk⟩;have kO:=hm.kept hk
 have hs:Step β w (up β nx (some p)) w':=by
  refine⟨hk.1,λb hb hf=>⟨hk.2.1 b hb,λi q hq=>?_⟩,λi q hq=>.inl ?_,hk.2.2,λ_ r _ _=>LI (hk.2.1 r)⟩
  .by_cases hi:i=nx
   .subst hi;rw[aw] at hq;cases hq;intro e;have:=(J b e).1;omega
   .rw[aV _ _ hi] at hq;exact hf i q hq
  .rw[aV _ _ (λe=>by rw[e,hn] at hq;cases hq)];exact hq
 have C:∀ i q b,up β nx (some p) i=some q->q.cn=some b->(i=nx/\q=p)\/(i≠nx/\β i=some q):=λi q b hq _=>by
  by_cases hi:i=nx
  .subst hi;rw[aw] at hq;cases hq;exact .inl ⟨rfl,rfl⟩
  .rw[aV _ _ hi] at hq;exact .inr ⟨hi,hq⟩
 have U:∀ b,¬ (owned F β b\/p.cn=some b)->¬ F b/\aZ.free (up β nx (some p)) b:=λb hb=>by
  have h1:=HJ (F:=F) (β:=β) (b:=b) (λe=>hb (.inl e));refine⟨h1.1,λi q hq e=>?_⟩;rcases C i q b hq e with⟨_,rfl⟩|⟨_,lM⟩
  .exact hb (.inr e)
  .exact h1.2 i q lM e
 have SP:dG P F (up β nx (some p)) w' (.cells es t) p:=by
  cases aF with
  |nil _=>exact .nil _
  |cells _ _ b o room sz c h1 h2 h3 h4 h5=>
   refine .cells es t b o room sz c h1 h2 h3 h4 λk d hd=>?_;let⟨u,ux,uy,uz⟩:=h5 k d hd;exact⟨u,ux,uy.lift U,uz⟩
 refine⟨v,up β nx (some p),he,?_,?_,hs,λi hi=>aV _ _ hi⟩
 .cases hv with
  |oE _ _ _ _ h _=>rw[aw] at h;cases h;exact absurd rfl SN
  |lN _ a h=>rw[aw] at h;cases h;exact .lN nx a r9
  |mJ _ _ a b o len room sz h=>rw[aw] at h;cases h;exact .mJ nx 0 a b o len room sz r9
  |rs _ _ _ cap b o len room sz h h1 h2 h3 h4=>rw[aw] at h;cases h;exact .rs nx 0 n cap b o len room sz r9 h1 h2 h3 h4
 .refine⟨λi r hi=>?_,λi j q q' b hq lM e M=>?_,λi q b hq e=>?_,λi q b hq e=>?_,kO.fb⟩
  .by_cases X:i=nx
   .subst X;rw[aw] at hi;cases hi;exact⟨p,aw _ _ _,SP⟩
   .rw[aV _ _ X] at hi;let⟨q,hq,UU⟩:=hm.row i r hi;exact⟨q,by rw[aV _ _ X];exact hq,UU.step hs λb hb=>hk.2.1 b (hm.lt i q b hq hb)⟩
  .rcases C i q b hq e with⟨rfl,rfl⟩|⟨hi,h1⟩<;>rcases C j q' b lM M with⟨rfl,rfl⟩|⟨hj,h2⟩
   .rfl
   .have:=(J b e).1;have:=hm.lt j q' b h2 M;omega
   .have:=(J b M).1;have:=hm.lt i q b h1 e;omega
   .exact hm.inj i j q q' b h1 h2 e M
  .rcases C i q b hq e with⟨_,rfl⟩|⟨_,h1⟩
   .exact(J b e).2
   .exact kO.lt i q b h1 e
  .rcases C i q b hq e with⟨_,rfl⟩|⟨_,h1⟩
   .intro hF;have:=hm.fb.lt b hF;have:=(J b e).1;omega
   .exact hm.nf i q b h1 e
def Xm{o:Oper}{env:Env}{a:Act}(M:jd F β w env a)(ha:asks env o.op)(h:eX (bO env o.op) o.op=some (f,args))(he:pD P f=true):
 ∃ vs,(execOp a.eval o).run P w=.ok (.enter f vs) w/\Rs F β w args vs:=by
 let⟨dst,op,type,pos,after,guard⟩:=o;simp only at ha h;cases op with
 |call c=>
  simp only[eX] at h;have hR:∀ x∈(Op.call c).operands.toList,R F β w (bO env (.call c) x) (a.eval x):=λx hx=>(M.opd x).Bk _ (ha x hx);split at h
  .rename_i g hg;split at h
   .rename_i k fs cs hk;simp only[bg,dp] at h;obtain⟨rfl,rfl⟩:=h;have h1:=hR g (by simp[Op.operands,Call.operands,hg]);rw[hk] at h1;let⟨q1,U⟩:=FG (F:=F) (β:=β) (w:=w) (xs:=c.args) (ρ:=bO env (.call c)) (a:=a) (λx hx=>hR x (by simp[Op.operands,Call.operands];exact .inr hx));generalize hv:a.eval g=v at h1;cases h1 with
    |fn _ _ _ us vs hl mK hh J=>
    refine⟨us.toArray++c.args.map a.eval++vs.toArray,?_,?_,?_⟩
    .unfold execOp;simp only[resolve,hg,Sem.run_bind,hv,Deferred.ofValue,Sem.run_pure,Result.andThen_ok,invoke];unfold callFunc;unfold pD at he;simp only[Sem.run_bind,run_program,Result.andThen_ok];split at he
     .rename_i fn X;simp only[aJ,Bool.not_eq_true'] at he
      have hb:fn.body.isNone=false:=by
       cases UW:fn.body<;>simp_all
      rw[X];simp only[he.1,hb,Bool.false_eq_true,if_false,Sem.run_pure]
     .cases he
    .simp[hl,mK]
    .intro j d u hd hu;simp only[append_assoc] at hd;simp only[Array.append_assoc] at hu;rcases Nat.lt_or_ge j fs.length with hj|hj
     .rw[getElem?_append_left hj] at hd;rw[Array.getElem?_append_left (by simpa[hl] using hj)] at hu;exact hh j d u hd (s0 hu)
     .rw[getElem?_append_right hj] at hd;rw[Array.getElem?_append_right (by simpa[hl] using hj)] at hu;simp only[size_toArray,hl] at hu;generalize j - fs.length=j' at hd hu;rcases Nat.lt_or_ge j' (c.args.toList.map (bO env (.call c))).length with C|C
      .rw[getElem?_append_left C] at hd;rw[Array.getElem?_append_left (s0 C)] at hu;exact U j' d u hd (s0 hu)
      .rw[getElem?_append_right C] at hd;rw[Array.getElem?_append_right (s0 C)] at hu;exact J _ d u hd (s0 hu)
   .cases h
  .cases h
 |_=>simp[eX] at h
end
end
section
variable{o:Op}{ρ:Operand->D}{m m':Mem}{t:TypeId}{e:eC}
section
variable{P:Program}
def anf{C:Operand->D}(h:∀ x∈o.operands,C x=ρ x)(m:Mem)(nx:Nat):bw P o C m nx=bw P o ρ m nx:=by
 have acq:∀ ps:Array (Nat×Operand),(∀ x∈ps.map (·.2),C x=ρ x)->
  (ps.toList.map λq=>(q.1,C q.2))=(ps.toList.map λq=>(q.1,ρ q.2)):=λps hp=>
  map_congr_left λp hm=>by
   let⟨i,x⟩:=p;simp[hp x (Array.mem_map.2 ⟨(i,x),s0 hm,rfl⟩)]
 have args:∀ xs:Array Operand,(∀ x∈xs,C x=ρ x)->xs.toList.map C=xs.toList.map ρ:=λxs hx=>
  map_congr_left λx hm=>hx x (s0 hm)
 cases o with
 |call c=>
  simp[bw];cases hc:c.callee with
  |builtin b=>simp[args c.args λx hx=>h x (by simp[Op.operands,Call.operands,hc,hx])]
  |_=>rfl
 |build t ps=>simp[bw,acq ps λx hx=>h x (by simpa[Op.operands] using hx)]
 |buildSlice t n ps=>simp[bw,acq ps λx hx=>h x (by simpa[Op.operands] using hx)]
 |makeFunc f fs cs=>simp[bw,args fs λx hx=>h x (by simp[Op.operands,hx]),args cs λx hx=>h x (by simp[Op.operands,hx])]
 |slice t x lo hi J=>
  have M:lo.map C=lo.map ρ:=by cases lo<;>simp_all[Op.operands]
  have e2:hi.map C=hi.map ρ:=by cases hi<;>simp_all[Op.operands]
  have e3:J.map C=J.map ρ:=by cases J<;>simp_all[Op.operands]
  simp[bw,M,e2,e3,h x cN]
 |makeMap t r=>cases r<;>simp_all[bw,Op.operands]
 |_=>first|rfl|(simp[Op.operands] at h;simp[bw];simp_all)
def HS{C:Operand->D}(h:∀ x∈o.operands,C x=ρ x):eX C o=eX ρ o:=by
 cases o with
 |call c=>
  simp[eX];cases hc:c.callee with
  |value f=>
   have J:c.args.toList.map C=c.args.toList.map ρ:=map_congr_left λx hm=>h x (by simp[Op.operands,Call.operands,hc];exact .inr (s0 hm));have e2:C f=ρ f:=h f (by simp[Op.operands,Call.operands,hc]);simp[J,e2]
  |_=>rfl
 |_=>rfl
def aad{env env':Env}{x:Operand}(h:∀ t,x=.tmp t->env' t=env t):opd env' x=opd env x:=by
 cases x<;>simp_all[opd]
def CV{env env':Env}(h:∀ t,Operand.tmp t∈o.operands->env' t=env t):∀ x∈o.operands,bO env' o x=bO env o x:=λx hx=>by
 have:=aad (env:=env) (env':=env') (x:=x) λt ht=>h t (ht▸hx);unfold bO;cases o<;>simp[this]
def CN{env env':Env}(h:∀ t,Operand.tmp t∈o.operands->env' t=env t):asks env' o=asks env o:=by
 have hh:∀ x∈o.operands,opd env' x=opd env x:=λx hx=>aad λt ht=>h t (ht▸hx)
 have hl:(∀ x∈o.operands.toList,(opd env' x).ask)=(∀ x∈o.operands.toList,(opd env x).ask):=by
  apply propext;constructor
  .intro hq x hx;rw[<- hh x (s0 hx)];exact hq x hx
  .intro hq x hx;rw[hh x (s0 hx)];exact hq x hx
 unfold asks;split
 .rw[hh _ cN]
 .exact hl
def Zq{sz:Nat}{d:D}{p:Prop}{rd:List Nat}{n:Nat}{cs:List D}(h:mS m sz d=some (p,rd,n,cs))(hr:∀ i∈rd,m' i=m i):mS m' sz d=some (p,rd,n,cs):=by
 unfold mS at*
 split at h
 .simpa using h
 .simpa using h
 .rename_i i off n';split at h
  .rename_i cs' e hm;simp only[bg,dp] at h;obtain⟨rfl,rfl,rfl,rfl⟩:=h;rw[hr i oS,hm]
  .cases h
 .cases h
def ag0{x k:D}{ok:Bool}(h:ry P m t x k ok=some e)(hr:∀ i∈e.rd,m' i=m i):ry P m' t x k ok=some e:=by
 unfold ry at*
 split at h
 .split at h
  .rename_i hm;cases h;rw[hr _ oS,hm]
  .cases h
 .exact h
 .exact h
 .cases h
def W2{x k v:D}(h:rz P m t x k v=some e)(hr:∀ i∈e.rd,m' i=m i):rz P m' t x k v=some e:=by
 unfold rz at*
 split at h
 .split at h
  .rename_i hm;cases h;rw[hr _ oS,hm]
  .cases h
 .cases h
def ag1{x k:D}(h:Bm P m t x k=some e)(hr:∀ i∈e.rd,m' i=m i):Bm P m' t x k=some e:=by
 unfold Bm at*
 split at h
 .split at h
  .rename_i hm;cases h;rw[hr _ oS,hm]
  .cases h
 .cases h
def ang{nx:Nat}(h:bw P o ρ m nx=some e)(hr:∀ i∈e.rd,m' i=m i):bw P o ρ m' nx=some e:=by
 cases o with
 |call c=>
  simp[bw] at h ⊢;split at h
  .rename_i b hb;split at h
   .rename_i U;rw[bi U];unfold gz at h ⊢;split at h
    .unfold o9 at h ⊢;split at h<;>try exact h
     split at h
     .rename_i hm;cases h;rw[hr _ oS,hm]
     .cases h
    .split at h
     .unfold vt at h ⊢;simp only at h ⊢;split at h
      .cases h
      .rename_i hc;split at h
       .cases h;rw[Zq hc hr];simp_all
       .split at h
        .rename_i hm;cases h;rw[Zq hc λi hi=>hr i (by simp[hi])];rw[hr _ oS,hm];simp_all
        .cases h
       .cases h
     .cases h
    .exact h
    .split at h
     .rename_i hm;cases h;rw[hr _ oS,hm]
     .cases h
    .exact ag1 h hr
    .cases h
   .cases h
  .cases h
 |lookup t x k ok=>exact ag0 h hr
 |mapUpdate t x k v=>exact W2 h hr
 |insert t x k v=>exact W2 h hr
 |slice t x lo hi X=>
  simp[bw] at h ⊢;unfold oZ at h ⊢;split at h
  .exact h
  .split at h
   .rename_i hm;split at h
    .cases h;rw[hr _ oS,hm]
    .cases h
   .cases h
  .exact h
  .cases h
 |binOp op t x y _=>
  simp[bw] at h ⊢;split at h
  .rename_i M he;simp[bg] at h;subst h
   have:p6 P m' op t (ρ x) y=some M:=by
    unfold p6 at he ⊢;split at he
    .exact he
    .split at he
     .rename_i hm;cases he;rw[hr _ oS,hm]
     .cases he
    .split at he
     .rename_i hm;cases he;rw[hr _ oS,hm]
     .cases he
    .cases he
   rw[this]
  .rename_i he;by_cases J:∃ i off,ρ x=.rp i off
   .let⟨i,off,C⟩:=J;rw[C] at h;simp[s7] at h
   .have:p6 P m' op t (ρ x) y=none:=by
     unfold p6 at he ⊢;split at he
     .cases he
     .rename_i i off C;exact absurd ⟨_,_,C⟩ J
     .rename_i i off C;exact absurd ⟨_,_,C⟩ J
     .simp_all
    rw[this];exact h
 |_=>
  first
  |exact h
  |(simp[bw] at h ⊢
    repeat' split at h
    all_goals first
     |(cases h;done)
     |exact h
     |(cases h;simp_all;done)
     |(simp_all;done))
end
end
end Go.Abs
namespace Go.Abs
open List
open Go.ChangeShapes Go.WideShapes
section
inductive Sh
 |int (k:IntKind)
 |bool
 |str
 |sl (s:Sh)
 |unit
 |pair (a b:Sh)
def Sh.val:Sh->Type
 | .int _=>Int
 | .bool=>Bool
 | .str=>ByteArray
 | .sl s=>List s.val
 | .unit=>Unit
 | .pair a b=>a.val×b.val
def Sh.size:Sh->Nat
 | .unit=>0
 | .pair a b=>a.size+b.size
 |_=>1
def Sh.enc:(s:Sh)->s.val->List D
 | .int k,n=>[.s (.int k n)]
 | .bool,b=>[.s (.bool b)]
 | .str,b=>[.s (.string b)]
 | .sl s,l=>[.sl (flatMap s.enc l) (length l)]
 | .unit,_=>[]
 | .pair a b,x=>a.enc x.1++b.enc x.2
def Sh.yg:Sh->Bool
 | .int .u64=>false
 | .sl s=>s.yg
 | .pair a b=>a.yg&&b.yg
 |_=>true
def Sh.arg:(s:Sh)->s.val->D
 | .int k,n=>.s (.int k n)
 | .bool,b=>.s (.bool b)
 | .str,b=>.s (.string b)
 | .sl s,l=>.sl (flatMap s.enc l) (length l)
 | .unit,_=>.agg []
 | .pair a b,x=>.agg (a.enc x.1++b.enc x.2)
def Sh.ok:(s:Sh)->s.val->Prop
 | .int k,n=>(Lit.int k n).wf=true
 | .bool,_=>True
 | .str,b=>ByteArray.size b<=maxLen
 | .sl s,l=>∀ x:s.val,List.Mem x l->s.ok x
 | .unit,_=>True
 | .pair a b,x=>a.ok x.1/\b.ok x.2
def Sh.HO:∀ (s:Sh) (x:s.val),(s.enc x).length=s.size
 | .int _,_ | .bool,_ | .str,_ | .sl _,_ | .unit,_=>rfl
 | .pair a b,x=>by simp[Sh.enc,Sh.size,Sh.HO a,Sh.HO b]
section
variable(P:Program)
def Ce(sh:TypeId->Option Sh):Nat->List Field->Option Sh
 |_,[]=>some .unit
 |off,f::fs=>if f.offset=off then match sh f.type,Ce sh (off+P.cellsOf f.type) fs with
  |some a,some b=>some (.pair a b)
  |_,_=>none
  else none
def zI:Nat->TypeId->Option Sh
 |0,_=>none
 |n+1,t=>match P.underlying t with
  |some .bool=>if P.cellsOf t=1 then some .bool else none
  |some (.int k)=>if P.cellsOf t=1 then some (.int k) else none
  |some .string=>if P.cellsOf t=1 then some .str else none
  |some (.slice e)=>if P.cellsOf t=1/\0<P.cellsOf e then(zI n e).map .sl else none
  |some (.struct fs)=>match Ce P (zI n) 0 fs.toList with
   |some s=>if s.size=P.cellsOf t then some s else none
   |none=>none
  |_=>none
end
variable{cs:List Value}{sh:TypeId->Option Sh}{off:Nat}{s:Sh}{n:Nat}{α:Type}
section
variable{P:Program}{H:Type}{ec:TypeId×Value->H}{w:World}{base:Nat}{spare:Nat->Bool}{held:Bool}{F:Nat->Prop}
def Holds(F:Nat->Prop)(w:World)(ds:List D)(cs:List Value):Prop:=ds.length=cs.length/\∀ (k:Nat) (d:D) (u:Value),ds[k]? =some d->cs[k]? =some u->R F j9 w d u/\u.oneCell'=true
def Holds.app{ds C:List D}{cs':List Value}(h:Holds F w ds cs)(h':Holds F w C cs'):Holds F w (ds++C) (cs++cs'):=by
 refine⟨by simp[h.1,h'.1],λk d u hd hu=>?_⟩;by_cases hk:k<ds.length
 .rw[getElem?_append_left hk] at hd;rw[getElem?_append_left (by have:=h.1;omega)] at hu;exact h.2 k d u hd hu
 .rw[getElem?_append_right oG] at hd;rw[getElem?_append_right (by have:=h.1;omega), <- h.1] at hu;exact h'.2 (k - ds.length) d u hd hu
def Holds.one{d:D}{u:Value}(h:R F j9 w d u)(h':u.oneCell'=true):Holds F w [d] [u]:=⟨rfl,λk d' C hd hu=>by
 cases k with
 |zero=>simp at hd hu;subst hd hu;exact⟨h,h'⟩
 |succ k=>simp at hd⟩
def Holds.nil:Holds F w [] []:=⟨rfl,oS⟩
def ZV(h:Ce P sh off []=some s):s=.unit:=by
 simp[Ce,bg] at h;exact h.symm
def YQ{f:Field}{fs:List Field}(h:Ce P sh off (f::fs)=some s):
 f.offset=off/\∃ a b,sh f.type=some a/\Ce P sh (off+P.cellsOf f.type) fs=some b/\s=.pair a b:=by
 simp only[Ce] at h;split at h
 .rename_i C;split at h
  .rename_i a b ha hb;simp only[bg] at h;exact⟨C,a,b,ha,hb,h.symm⟩
  .cases h
 .cases h
def LG:∀ (n:Nat) (t:TypeId) (s:Sh),zI P n t=some s->s.size=P.cellsOf t
 |0,_,_,h=>by cases h
 |n+1,t,s,h=>by
  unfold zI at h;split at h
  .split at h
   .rename_i h1;simp[bg] at h;subst h;exact h1.symm
   .cases h
  .split at h
   .rename_i h1;simp[bg] at h;subst h;exact h1.symm
   .cases h
  .split at h
   .rename_i h1;simp[bg] at h;subst h;exact h1.symm
   .cases h
  .split at h
   .rename_i h1;simp[ej] at h;obtain⟨a,_,rfl⟩:=h;exact h1.1.symm
   .cases h
  .split at h
   .split at h
    .rename_i h1;simp[bg] at h;subst h;exact h1
    .cases h
   .cases h
  .cases h
def Reads(P:Program)(F:Nat->Prop)(w:World)(sh:TypeId->Option Sh)(rd:TypeId->List Value->Option (DataW H×List MemPlace)):Prop:=
 ∀ t s cs x,sh t=some s->s.yg=true->cs.length=P.cellsOf t->rd t cs=some x->∃ v:s.val,s.ok v/\Holds F w (s.enc v) cs
def SF:∀ (s:Sh) (x:s.val),s.yg=true->∀ d∈s.enc x,∀ n:Int,¬ R F j9 w d (.int .u64 n)
 | .int k,x,h,d,hd,n,hr=>by
  simp[Sh.enc,mem_singleton] at hd;subst hd;cases hr;cases h
 | .bool,x,h,d,hd,n,hr=>by
  simp[Sh.enc,mem_singleton] at hd;subst hd;cases hr
 | .str,x,h,d,hd,n,hr=>by
  simp[Sh.enc,mem_singleton] at hd;subst hd;cases hr
 | .sl s,x,h,d,hd,n,hr=>by
  simp[Sh.enc,mem_singleton] at hd;generalize flatMap s.enc x=es at hd;generalize length x=k at hd;subst hd;cases hr
 | .unit,x,h,d,hd,n,hr=>by simp[Sh.enc] at hd
 | .pair a b,x,h,d,hd,n,hr=>by
  simp[Sh.yg,aJ] at h;simp[Sh.enc,mem_append] at hd;rcases hd with hd|hd
  .exact SF a x.1 h.1 d hd n hr
  .exact SF b x.2 h.2 d hd n hr
def Jl(F:Nat->Prop)(w:World):Prop:=∀ b o u,F b->w.cell? ⟨b,o,none⟩=some u->∃ n,u=.int .u64 n
def ZW{rd:TypeId->List Value->Option (DataW H×List MemPlace)}(hz:∀ t s,sh t=some s->s.size=P.cellsOf t)(h:Reads P F w sh rd){cs:List Value}:∀ (fs:List Field) (off:Nat) (s:Sh),Ce P sh off fs=some s->s.yg=true->off+s.size<=cs.length->
 (∀ f∈fs,∃ x,rd f.type ((cs.drop f.offset).take (P.cellsOf f.type))=some x)->∃ v:s.val,s.ok v/\Holds F w (s.enc v) ((cs.drop off).take s.size)
 |[],off,s,hs,_,_,_=>by
  obtain rfl:=ZV hs;exact⟨(),aa,by simp[Sh.enc,Sh.size,Holds]⟩
 |f::fs,off,s,hs,hn,hl,hr=>by
  obtain⟨X,a,b,ha,hb,rfl⟩:=YQ hs;simp[Sh.yg,aJ] at hn;let⟨x,hx⟩:=hr f oS;have mK:off+(a.size+b.size)<=cs.length:=hl;have cC:=hz _ _ ha;rw[X] at hx;let⟨v,U,hv⟩:=h f.type a _ x ha hn.1 (by simp[length_take,length_drop];omega) hx;rw[<- cC] at hb hv;let⟨J,C,M⟩:=ZW hz h fs (off+a.size) b hb hn.2 oG λg hg=>hr g (by simp[hg]);refine⟨(v,J),⟨U,C⟩,?_⟩;have:=hv.app M;show Holds F w (a.enc v++b.enc J) ((cs.drop off).take (a.size+b.size));rw[take_add,drop_drop];exact this
def QK{a:Addr}(h:w.cells? base a n=some cs):cs.length=n/\∀ k,k<n->w.cell? (a.add k)=cs[k]? /\k<cs.length:=by
 unfold World.cells? at h;split at h
 .have hl:cs.length=n:=s0 (mapM_some_length h)
  exact⟨hl,λk hk=>⟨mapM_some_get h k k (by simp[hk]),oG⟩⟩
 .cases h
def Xi{β:Type}{p:Nat->α->β->Prop}:∀ (n:Nat) (l:Nat->α),(∀ i,i<n->∃ y,p i (l i) y)->∃ ys:List β,ys.length=n/\∀ i (h:i<n) y,ys[i]? =some y->p i (l i) y
 |0,_,_=>⟨[],rfl,λi h=>by omega⟩
 |n+1,l,h=>by
  let⟨ys,h1,h2⟩:=Xi n l λi hi=>h i oG;let⟨y,hy⟩:=h n oG;refine⟨ys++[y],by simp[h1],λi hi z hz=>?_⟩;by_cases C:i<n
  .rw[getElem?_append_left oG] at hz;exact h2 i C z hz
  .have:i=n:=by omega
   subst this;rw[getElem?_append_right oG] at hz;simp[h1] at hz;subst hz;exact hy
def Rm{f:α->List D}{sz:Nat}(hs:∀ x,(f x).length=sz):∀ (l:List α) (i j:Nat),j<sz->(l.flatMap f)[i*sz+j]? =(l[i]?).bind λx=>(f x)[j]?
 |[],i,j,_=>by simp
 |x::l,0,j,h=>by simp[getElem?_append_left (show j<(f x).length by rw[hs];exact h)]
 |x::l,i+1,j,h=>by
  rw[flatMap_cons,getElem?_append_right (by rw[hs,Nat.add_mul];omega)];have:(i+1)*sz+j - (f x).length=i*sz+j:=by rw[hs,Nat.add_mul];omega
  rw[this,Rm hs l i j h];simp
def R0(hF:Jl F w):∀ (eY n:Nat),Reads P F w (zI P n) (DataW.trod ec P w base spare held eY)
 |eY,0,t,s,cs,x,h,_,_,_=>by cases h
 |eY,n+1,t,s,cs,x,h,yh,hl,hr=>by
  have cC:=LG _ _ _ h;unfold zI at h;split at h
  .rename_i ht;split at h
   .simp[bg] at h;subst h;obtain⟨b,rfl,_⟩:=DataW.trod_bool ht hr;exact⟨b,aa,.one (.s _ rfl) rfl⟩
   .cases h
  .rename_i k ht;split at h
   .simp[bg] at h;subst h;obtain⟨b,rfl,_,hw⟩:=DataW.trod_int ht hr;exact⟨b,hw,.one (.s _ rfl) rfl⟩
   .cases h
  .rename_i ht;split at h
   .simp[bg] at h;subst h;obtain⟨b,rfl,_,hw⟩:=DataW.trod_string ht hr;exact⟨b,hw,.one (.s _ rfl) rfl⟩
   .cases h
  .rename_i e ht;split at h
   .rename_i hc;simp[ej] at h;obtain⟨a,ha,rfl⟩:=h;have haz:=LG _ _ _ ha;rcases DataW.trod_slice ht hr with⟨rfl,_⟩|⟨ad,len,cap,M,rest,fl,rfl,rfl,_,hb,hlc,hm,hlen,qg,_,_⟩
    .exact⟨([]:List a.val),(λx h=>nomatch h),.one (by exact .ln none 0) rfl⟩
    .have U:∀ i,i<len->∃ C:List Value,w.cells? base (ad.add (i*P.cellsOf e)) (P.cellsOf e)=some C/\∃ y,DataW.trod ec P w base spare held fl e C=some y:=λi hi=>by
      have:=qg i hi;have hg:M[i]? =some M[i]:=by simp[hlen,hi]
      rw[hg,Option.bind_eq_some_iff] at this;let⟨C,h1,h2⟩:=this;exact⟨C,h1,_,h2⟩
     have JR:∀ i,i<len->∃ v:a.val,a.ok v/\∃ C,w.cells? base (ad.add (i*P.cellsOf e)) (P.cellsOf e)=some C/\Holds F w (a.enc v) C:=λi hi=>by
      let⟨C,h1,y,h2⟩:=U i hi;let⟨v,KK,hv⟩:=R0 hF fl n e a C y ha yh (QK h1).1 h2;exact⟨v,KK,C,h1,hv⟩
     let⟨vs,wj,OP⟩:=Xi (p:=λ(i:Nat) (_:Nat) (v:a.val)=>a.ok v/\∃ C,w.cells? base (ad.add (i*P.cellsOf e)) (P.cellsOf e)=some C/\Holds F w (a.enc v) C) len (λi=>i) JR
     have awV:∀ x:a.val,x∈vs->a.ok x:=λx hm=>by
      let⟨i,hx⟩:=cV hm;exact(OP i (by have:=(bQ.1 hx).1;omega) x hx).1
     cases len with
     |zero=>
      have:vs=[]:=length_eq_zero_iff.1 wj;subst this;exact⟨([]:List a.val),(λx h=>nomatch h),.one (by exact .ln _ cap) rfl⟩
     |succ l=>
      let⟨C,h0,_⟩:=U 0 oG;have WC:=(QK h0).2 0 hc.2;simp[Nat.zero_mul,Addr.add,if_true] at WC;let⟨b,o,sp⟩:=ad;have Ni:∃ u,w.cell? ⟨b,o,sp⟩=some u:=⟨C[0],by rw[WC.1];simp[WC.2]⟩
      let⟨u0,J⟩:=Ni;unfold World.cell? at J
      have rW:b<w.heap.size:=by
       cases hh:w.heap[b]? with
       |none=>rw[hh] at J;cases J
       |some x=>exact(Array.getElem?_eq_some_iff.1 hh).1
      have u7:sp=none:=by
       cases sp with
       |none=>rfl
       |some q=>
        simp only at J;split at J
        .simp at J
        .cases J
      subst u7
      have awW:∀ i j,((⟨b,o,none⟩:Addr).add i).add j=⟨b,o+(i+j),none⟩:=λi j=>by
       unfold Addr.add;split<;>split<;>simp_all;omega
      have hk:∀ k d,(vs.flatMap a.enc)[k]? =some d->∃ u,w.cell? ⟨b,o+k,none⟩=some u/\R F j9 w d u/\u.oneCell'=true:=λk d hd=>by
       have X:0<a.size:=by omega
       have Eh:k / a.size*a.size+k % a.size=k:=by rw[Nat.mul_comm];exact Nat.div_add_mod k a.size
       have Eu:=Nat.mod_lt k X;rw[<- Eh,Rm a.HO _ _ _ Eu,Option.bind_eq_some_iff] at hd;let⟨x,hx,hd⟩:=hd
       have hi:k / a.size<l+1:=by
        have:=(bQ.1 hx).1;omega
       let⟨_,C,O5,hho⟩:=OP _ hi x hx;let⟨h1,h2⟩:=(QK O5).2 (k % a.size) oG;rw[awW, <- haz,Eh] at h1;refine⟨C[k % a.size],by rw[h1];simp[h2],hho.2 _ d _ hd (by simp[h2])⟩
      have r8:¬ F b:=λhb=>by
       let⟨x0,xV⟩:=s3 vs 0 (show 0<vs.length by omega)
       have X:0<a.size:=by omega
       obtain⟨d0,kP⟩:∃ d0,(vs.flatMap a.enc)[0]? =some d0:=by
        have:=Rm a.HO vs 0 0 X;rw[Nat.zero_mul,Nat.zero_add,xV] at this;rw[this];exact⟨_,aO (by rw[a.HO];exact X)⟩
       let⟨u,h1,h2,_⟩:=hk 0 d0 kP;obtain⟨q,rfl⟩:=hF _ _ _ hb h1;let⟨x1,Hn,dN⟩:=mem_flatMap.1 (bD kP);exact SF a x1 yh d0 dN q h2
      refine⟨vs,λx h=>awV x h,.one (by
       have Kd:(length vs)=l+1:=wj;show R _ _ _ (.sl (flatMap a.enc vs) (length vs)) _;rw[Kd];refine .sl _ _ b o cap (λk=>(w.cell? ⟨b,o+k,none⟩).getD undef) r8 (λ_ _ h=>by cases h) rW hlc hm (λk iD=>?_) λk d hd=>?_
       .let⟨u,h1,_,h3⟩:=hk k _ (aO iD);simp[h1,h3]
       .let⟨u,h1,h2,_⟩:=hk k d hd
        simpa[h1] using h2) rfl⟩
   .cases h
  .rename_i fs ht;obtain⟨xs,fl,rfl,_,_,xL,xK⟩:=DataW.trod_struct ht hr;split at h
   .rename_i s' fe;split at h
    .rename_i hs;simp[bg] at h;subst h
     let⟨v,KK,hv⟩:=ZW (P:=P) (w:=w) (λt s=>LG n t s) (R0 hF fl n) (cs:=cs) fs.toList 0 s' fe yh oG λf hf=>by
      obtain⟨i,hi,rfl⟩:=Array.getElem_of_mem (Array.mem_toList_iff.1 hf);have:=xK i fs[i] (by simp[hi]);exact⟨xs[i],by rw[this];simp[xL,hi]⟩
     refine⟨v,KK,?_⟩;rw[drop_zero,cX oG] at hv;exact hv
    .cases h
   .cases h
  .cases h
def atD(hF:Jl F w){r:Reach}{b0:Nat}{t:TypeId}{v:Value}{d:DataW H}{ps:List MemPlace}(hs:zI P n t=some s)(yh:s.yg=true)(hv:Value.okWide P w r b0 t v)(hd:DataW.Trod ec P w base spare held t v d ps):
 ∃ x:s.val,s.ok x/\R F j9 w (s.arg x) v:=by
 cases n with
 |zero=>cases hs
 |succ n=>
  let⟨eY,hf⟩:=hd;have hz:=LG _ _ _ hs;have key:v.cells.toList.length=P.cellsOf t->∃ x:s.val,s.ok x/\Holds F w (s.enc x) v.cells.toList:=λhl=>R0 hF eY (n+1) t s _ _ hs yh hl hf;unfold zI at hs;split at hs
  .rename_i ht;obtain⟨b,rfl⟩:=okWide_bool ht hv;split at hs
   .simp[bg] at hs;subst hs;exact⟨b,aa,.s _ rfl⟩
   .cases hs
  .rename_i k ht;obtain⟨b,rfl⟩:=okWide_int ht hv;split at hs
   .simp[bg] at hs;subst hs;let⟨c,hc,_,J⟩:=DataW.trod_int ht hf;simp[Value.cells] at hc;subst hc;exact⟨b,J,.s _ rfl⟩
   .cases hs
  .rename_i ht;obtain⟨b,rfl⟩:=okWide_string ht hv;split at hs
   .simp[bg] at hs;subst hs;let⟨c,hc,_,J⟩:=DataW.trod_string ht hf;simp[Value.cells] at hc;subst hc;exact⟨b,J,.s _ rfl⟩
   .cases hs
  .rename_i e ht;obtain⟨a,len,cap,rfl⟩:=okWide_slice ht hv;split at hs
   .rename_i h1;simp[ej] at hs;obtain⟨q,_,rfl⟩:=hs;let⟨x,M,hx⟩:=key h1.1.symm;exact⟨x,M,(hx.2 0 _ _ rfl rfl).1⟩
   .cases hs
  .rename_i fs ht;obtain⟨cs,rfl,cC⟩:=okWide_struct ht hv;let⟨x,M,hx⟩:=key (by simpa[Value.cells] using cC);refine⟨x,M,?_⟩
   have ha:s.arg x=.agg (s.enc x):=by
    split at hs
    .rename_i s' C;split at hs
     .simp[bg] at hs;subst hs;cases U:fs.toList with
      |nil=>
       rw[U] at C;obtain rfl:=ZV C;rfl
      |cons f X=>
       rw[U] at C;obtain⟨_,a,b,_,_,rfl⟩:=YQ C;rfl
     .cases hs
    .cases hs
   rw[ha];have:=hx.1;simp[Value.cells] at this hx;have e:cs=cs.toList.toArray:=by simp
   rw[e];exact .agg _ cs.toList this.symm λk d v h1 h2=>(hx.2 k d v h1 h2).1
  .cases hs
def LH{β:Type}(f:α->β):∀ l:List α,(l.flatMap λx=>[f x])=l.map f
 |[]=>rfl
 |x::l=>by rw[flatMap_cons,LH f l];rfl
def XN{β γ:Type}{f:α->List γ}{g:β->List γ}{h:α->β}(he:∀ x,f x=g (h x)):∀ l:List α,l.flatMap f=(l.map h).flatMap g
 |[]=>rfl
 |x::l=>by rw[flatMap_cons,map_cons,flatMap_cons,he,XN he l]
end
end
end Go.Abs
namespace Go.Abs
open List
section
abbrev Fe(r:Option Nat):Fence:={ fn:=λ_=>True,depth:=none,alive:=false,round:=r }
variable{r:Option Nat}{n:Nat}{w:World}
def Ll{P:Program}{f:FuncId}{args:Array Value}{R:Ending->World->Prop}(h:Calls P f args w R):CallsIn (Fe r) n P f args w R:=
 (callsIn_wide.2 h:CallsIn Fence.wide n P f args w R)
def o5(r:Option Nat)(n:Nat)(P:Program)(ops:Array Oper)(QX:Exit->Act->World->Prop)(o:Oper)(K:Act->World->Prop)(a:Act)(w:World):Prop:=
 if Region.wanted o (yielded ops a.tmps) then o.wpIn (Fe r) n P a w K QX else(∀ f,o.about P w a.eval=some f->(Fe r).fn f)/\K (a.put o.dst undef) w
variable{o:Oper}{a:Act}
section
variable{P:Program}{ops:Array Oper}
def KN{QX:Exit->Act->World->Prop}{i:Nat}(hi:ops[i]? =some o){K:Act->World->Prop}(h:o5 r n P ops QX o K a w):
 wpOpIn (Fe r) n P ops QX i K a w:=by
 unfold wpOpIn;simp only[hi];exact h
structure cy where
 val:D
 bF:List (Nat×Option Row):=[]
 rd:List Nat:=[]
 new:Nat:=0
def cy.wr(p:cy):List Nat:=p.bF.map (·.1)
def cy.Ok(P:Program)(ops:Array Oper)(o:Oper)(st:St)(p:cy):Prop:=
 ∀ (F:Nat->Prop) (β:aZ) (w:World) (a:Act) (m:Mem) (env:Env) (N:Nat),(∀ t∈o.looksAt ops,env t=st.env t)->jd F β w env a->bc P F m β w->
  (∀ i∈p.rd,st.mem i≠none->m i=st.mem i)->(∀ i,st.nx<=i->i<st.nx+p.new->β i=none)->(∀ i,N<=i->β i=none)->
  ∀ (r:Option Nat) (n:Nat) (QX:Exit->Act->World->Prop) (K:Act->World->Prop),
   (∀ v w' β',R F β' w' p.val v->bc P F (dx m p.bF) β' w'->Step β w β' w'->(∀ i,β i=none->(i<st.nx\/st.nx+p.new<=i)->β' i=none)->K (a.put o.dst v) w')->
   o5 r n P ops QX o K a w
structure cy.qM(p:cy)(k:Nat)(st:St):Prop where
 wr:∀ i∈p.wr,st.mem i≠none\/(st.nx<=i/\i<st.nx+p.new)
 k0:k=0->p.rd=[]/\p.bF=[]
 k1:k=1->p.bF=[]
 k3:k=3->p.rd=[]/\∀ i∈p.wr,st.nx<=i
def FL(h:∀ c,o.op≠ .defer c)(ρ:Operand->Value):o.semAt r ρ=execOp ρ o:=Oper.semAt_eq r ρ o h
def ano{F:Nat->Prop}{β:aZ}{env:Env}(M:jd F β w env a){j t:Nat}{b c:Bool}(ht:(ops[j]?).bind (·.dst)=some t)(hc:nF (env t) b=some c):
 (yielded ops a.tmps j==some b)=c:=by
 have h:=M t
 have hy:yielded ops a.tmps j=match a.tmps[t]? with|some (.bool b)=>some b|_=>none:=by
  rw[yielded,ht];rfl
 have hq:∀ x:Value,a.tmps.getD t undef=x->x≠undef->a.tmps[t]? =some x:=λx hx C=>by
  simp[Array.getD_eq_getD_getElem?] at hx;cases hg:a.tmps[t]? with
  |none=>rw[hg] at hx;exact absurd hx.symm C
  |some y=>rw[hg] at hx;simpa using hx
 have hf:∀ {d:D},R F β w (.dw false d) (a.tmps.getD t undef)->c=false->(yielded ops a.tmps j==some b)=c:=λ{d} h U=>by
  generalize hv:a.tmps.getD t undef=v at h;cases h with
  |dw _ _ _ h1 h2=>
   have:=h2 rfl;rw[hy,U];simp[Array.getD_eq_getD_getElem?] at hv;cases hg:a.tmps[t]? with
   |none=>simp
   |some y=>
    rw[hg] at hv;simp[Option.getD_some] at hv;rw[hv,this];simp[undef]
 unfold nF at hc;split at hc
 .rename_i g X e;rw[e] at h;have:=h.du.1;rw[hy,hq _ this (by simp[undef])];simpa using hc
 .rename_i _ J d e;rw[e] at h;cases J with
  |false=>
   apply hf h;split at hc<;>simpa using hc.symm
  |true=>
   split at hc
   .generalize hv:a.tmps.getD t undef=v at h;cases h with
    |dw _ _ _ h1 h2=>
     have:=(h1 rfl).du.1;rw[hy,hq _ (hv.trans this) (by simp[undef])];simpa using hc
   .simp at hc
 .cases hc
end
end
section
variable{m:Mem}{d:D}{rd:List Nat}{t:TypeId}{e:eC}{op:Op}{ρ:Operand->D}{nx:Nat}{env:Env}{F:Nat->Prop}{β:aZ}{f:FuncId}{args:List D}{bR:List Nat}{bF:List (Nat×Option Row)}{i:Nat}
section
variable{P:Program}{ops:Array Oper}{o:Oper}{st:St}
def agE{sz:Nat}{p:Prop}{n:Nat}{cs:List D}(h:mS m sz d=some (p,rd,n,cs)):∀ i∈rd,m i≠none:=by
 unfold mS at h;split at h
 .cases h;simp
 .cases h;simp
 .split at h
  .rename_i hm;cases h;simp[hm]
  .cases h
 .cases h
def WT{x k:D}{ok:Bool}(h:ry P m t x k ok=some e):e.bF=[]/\e.new=0/\∀ i∈e.rd,m i≠none:=by
 unfold ry at h;split at h
 .split at h
  .rename_i hm;cases h;simp[hm]
  .cases h
 .cases h;simp
 .cases h;simp
 .cases h
def KO{x k v:D}(h:rz P m t x k v=some e):(∀ i∈e.bF.map (·.1),m i≠none)/\∀ i∈e.rd,m i≠none:=by
 unfold rz at h;split at h
 .split at h
  .rename_i hm;cases h;simp[hm]
  .cases h
 .cases h
def WU{x k:D}(h:Bm P m t x k=some e):(∀ i∈e.bF.map (·.1),m i≠none)/\∀ i∈e.rd,m i≠none:=by
 unfold Bm at h;split at h
 .split at h
  .rename_i hm;cases h;simp[hm]
  .cases h
 .cases h
def RK(h:bw P op ρ m nx=some e):
 (∀ i∈e.bF.map (·.1),m i≠none\/(nx<=i/\i<nx+e.new))/\(dv op=0->e.rd=[]/\e.bF=[])/\(dv op=1->e.bF=[])/\(dv op=3->e.rd=[]/\∀ i∈e.bF.map (·.1),nx<=i):=by
 cases op with
 |call c=>
  have h0:(∀ i∈e.bF.map (·.1),m i≠none\/(nx<=i/\i<nx+e.new))/\(c.callee=.builtin .len->e.bF=[])/\(c.callee=.builtin .min->e.rd=[]/\e.bF=[]):=by
   simp only[bw] at h;split at h
   .rename_i b hb;split at h
    .unfold gz at h;split at h
     .refine⟨?_,λ_=>?_,λhx=>(by rw[hx] at hb;cases hb)⟩<;>
      .unfold o9 at h;split at h<;>first|(cases h;simp;done)|skip
       all_goals first|(cases h;done)|skip
       all_goals (split at h<;>first|(cases h;simp;done)|(cases h;done))
     .refine⟨?_,λhx=>(by rw[hx] at hb;cases hb),λhx=>(by rw[hx] at hb;cases hb)⟩;split at h
      .unfold vt at h;simp only at h;split at h
       .cases h
       .rename_i hc;split at h
        .cases h;simp
        .split at h
         .rename_i hm;cases h;intro i hi;simp only[map_cons,map_nil,mem_cons,not_mem_nil,or_false] at hi;rcases hi with rfl|rfl
          .left;simp[hm]
          .right;simp
         .cases h
        .cases h
      .cases h
     .cases h;refine⟨oS,λ_=>rfl,λ_=>⟨rfl,rfl⟩⟩
     .refine⟨?_,λhx=>(by rw[hx] at hb;cases hb),λhx=>(by rw[hx] at hb;cases hb)⟩;split at h
      .rename_i hm;cases h;simp[hm]
      .cases h
     .exact⟨λi hi=>.inl ((WU h).1 i hi),λhx=>(by rw[hx] at hb;cases hb),λhx=>(by rw[hx] at hb;cases hb)⟩
     .cases h
    .cases h
   .cases h
  refine⟨h0.1,λhk=>?_,λhk=>?_,λhk=>?_⟩
  .unfold dv at hk;split at hk<;>first|(cases hk;done)|skip
   all_goals first|(rename_i hx;injection hx with hx;subst hx;exact h0.2.2 rfl)|(simp_all;done)
  .unfold dv at hk;split at hk<;>first|(cases hk;done)|skip
   all_goals first|(rename_i hx;injection hx with hx;subst hx;exact h0.2.1 rfl)|(simp_all;done)
  .unfold dv at hk;split at hk<;>first|(cases hk;done)|skip
   all_goals simp_all
 |binOp op t x y _=>
  simp only[bw] at h;split at h
  .rename_i C he;simp only[bg] at h;subst h
   have h0:C.bF=[]/\(op=.eql\/op=.neq):=by
    unfold p6 at he;split at he
    .cases he;exact⟨rfl,.inl rfl⟩
    .split at he
     .cases he;exact⟨rfl,.inl rfl⟩
     .cases he
    .split at he
     .cases he;exact⟨rfl,.inr rfl⟩
     .cases he
    .cases he
   refine⟨by simp[h0.1],λhk=>?_,λ_=>h0.1,λhk=>?_⟩
   .rcases h0.2 with rfl|rfl<;>simp[dv] at hk
   .rcases h0.2 with rfl|rfl<;>simp[dv] at hk
  .cases hb:s7 P op t (ρ x) (ρ y) with
   |none=>rw[hb] at h;cases h
   |some r=>rw[hb] at h;cases h;simp
 |lookup t x k ok=>
  have:=WT h;refine⟨by simp[this.1],λhk=>?_,λ_=>this.1,λhk=>?_⟩<;>simp[dv] at hk
 |mapUpdate t x k v=>
  refine⟨λi hi=>.inl ((KO h).1 i hi),λhk=>?_,λhk=>?_,λhk=>?_⟩<;>simp[dv] at hk
 |insert t x k v=>
  refine⟨λi hi=>.inl ((KO h).1 i hi),λhk=>?_,λhk=>?_,λhk=>?_⟩<;>simp[dv] at hk
 |slice t x lo hi J=>
  have h0:e.bF=[]:=by
   simp only[bw] at h;unfold oZ at h
   repeat' split at h
   all_goals first|(cases h;done)|(cases h;rfl)
  refine⟨by simp[h0],λhk=>?_,λ_=>h0,λhk=>?_⟩<;>simp[dv] at hk
 |_=>
  first
  |(simp only[bw] at h;cases h;simp[dv];done)
  |(simp only[bw] at h
    repeat' split at h
    all_goals first
     |(cases h;done)
     |(cases h;simp_all[dv];done)
     |(simp only[ej] at h;obtain⟨x,hx,rfl⟩:=h;simp[dv];done))
def iI(ops:Array Oper)(o:Oper)(st:St)(c:Bool):Prop:=
 ∀ (F:Nat->Prop) (β:aZ) (w:World) (a:Act) (env:Env),(∀ t∈o.looksAt ops,env t=st.env t)->jd F β w env a->Region.wanted o (yielded ops a.tmps)=c
def CJ(h:o.guard=none):iI ops o st true:=λ_ _ _ _ _ _ _=>by simp[Region.wanted,h]
def PZ{j t:Nat}{b c:Bool}(h:o.guard=some (j,b))(ht:(ops[j]?).bind (·.dst)=some t)(hc:nF (st.env t) b=some c):iI ops o st c:=λF β w a env he C=>by
 have:=he t (by simp[Oper.looksAt,h,ht]);rw[<- this] at hc;have h1:=ano C ht hc;simpa[Region.wanted,h] using h1
def CK(he:∀ t∈o.looksAt ops,env t=st.env t):∀ t,Operand.tmp t∈o.op.operands->env t=st.env t:=λt ht=>
 he t (mem_append_left _ (mem_filterMap.2 ⟨.tmp t,s0 ht,rfl⟩))
def LS(M:iI ops o st false)(d:D)(hd:∀ F β w,R F β w d undef):cy.Ok P ops o st ⟨d,[],[],0⟩:=by
 intro F β w a m env N he C hm hr hn U r n QX K J;rw[o5,M F β w a env he C,ai oS];exact⟨λ_ _=>trivial,J undef w β (hd F β w) hm (Step.refl β w) λ_ h _=>h⟩
def abt{c:Bool}(U:iI ops o st c)(h:c=true->cy.Ok P ops o st ⟨d,[],rd,0⟩):cy.Ok P ops o st ⟨.dw c d,[],rd,0⟩:=by
 intro F β w a m env N he C hm hr hn M r n QX K J;cases c with
 |true=>exact h rfl F β w a m env N he C hm hr hn M r n QX K λv w' β' h1=>J v w' β' (.dw true d v (λ_=>h1) oS)
 |false=>
  have:=LS (P:=P) U (.dw false d) λF β w=>.dw false d undef oS λ_=>rfl;exact this F β w a m env N he C hm oS hn M r n QX K J
def aaj{F:Nat->Prop}{m:Mem}{nx:Nat}{β:aZ}{w:World}{a:Act}(fN:∀ c,o.op≠ .defer c)(hw:Region.wanted o (yielded ops a.tmps)=true)(h:bB P F m nx β w e (execOp a.eval o))
 {r:Option Nat} {n:Nat} {QX:Exit->Act->World->Prop} {K:Act->World->Prop}
 (X:∀ v w' β',R F β' w' e.val v->bc P F (dx m e.bF) β' w'->Step β w β' w'->(∀ i,β i=none->(i<nx\/nx+e.new<=i)->β' i=none)->K (a.put o.dst v) w'):
 o5 r n P ops QX o K a w:=by
 let⟨AM,v,w',β',h1,h2,C,J,M,U⟩:=h;rw[o5,hw,bi rfl];refine⟨λ_ _=>trivial,?_⟩;rw[FL fN,h1];rcases h2 with rfl|⟨rfl,rfl⟩
 .exact X v w' β' C J M U
 .exact X undef w' β' C J M U
def ai2(h:bw P op ρ m nx=some e):∀ c,op≠ .defer c:=λc hc=>by
 subst hc;simp[bw] at h
def W9{x:FuncId×List D}(h:eX ρ op=some x):∀ c,op≠ .defer c:=λc hc=>by
 subst hc;simp[eX] at h
def aoN(h:bw P op ρ m nx=some e):∀ i∈e.rd,m i≠none:=by
 cases op with
 |call c=>
  simp only[bw] at h;split at h
  .split at h
   .unfold gz at h;split at h
    .unfold o9 at h;split at h<;>first|(cases h;simp;done)|skip
     all_goals first|(cases h;done)|skip
     all_goals (split at h<;>first|(rename_i hm;cases h;simp[hm];done)|(cases h;done))
    .split at h
     .unfold vt at h;simp only at h;split at h
      .cases h
      .rename_i hc;have h1:=agE hc;split at h
       .cases h;exact h1
       .split at h
        .rename_i hm;cases h;intro i hi;simp only[mem_cons] at hi;rcases hi with rfl|hi
         .simp[hm]
         .exact h1 i hi
        .cases h
       .cases h
     .cases h
    .cases h;simp
    .split at h
     .rename_i hm;cases h;simp[hm]
     .cases h
    .exact(WU h).2
    .cases h
   .cases h
  .cases h
 |binOp op t x y _=>
  simp only[bw] at h;split at h
  .rename_i C he;simp only[bg] at h;subst h;unfold p6 at he;split at he
   .cases he;simp
   .split at he
    .rename_i hm;cases he;simp[hm]
    .cases he
   .split at he
    .rename_i hm;cases he;simp[hm]
    .cases he
   .cases he
  .cases hb:s7 P op t (ρ x) (ρ y) with
   |none=>rw[hb] at h;cases h
   |some r=>rw[hb] at h;cases h;simp
 |lookup t x k ok=>exact(WT h).2.2
 |mapUpdate t x k v=>exact(KO h).2
 |insert t x k v=>exact(KO h).2
 |slice t x lo hi J=>
  simp only[bw] at h;unfold oZ at h
  repeat' split at h
  all_goals first|(cases h;done)|(cases h;simp_all;done)
 |_=>
  first
  |(simp only[bw] at h;cases h;simp;done)
  |(simp only[bw] at h
    repeat' split at h
    all_goals first
     |(cases h;done)
     |(cases h;simp_all;done)
     |(simp only[ej] at h;obtain⟨x,hx,rfl⟩:=h;simp;done))
def ak8{m':Mem}(h:bw P op ρ m nx=some e)(hr:∀ i∈e.rd,m i≠none->m' i=m i):bw P op ρ m' nx=some e:=
 ang h λi hi=>hr i hi (aoN h i hi)
def Sd(U:iI ops o st true)(ha:asks st.env o.op)(h:bw P o.op (bO st.env o.op) st.mem st.nx=some e)(hp:e.pre):cy.Ok P ops o st ⟨e.val,e.bF,e.rd,e.new⟩:=by
 intro F β w a m env N he C hm hr hn X r n QX K M;have J:=CK he;refine aaj (m:=m) (nx:=st.nx) (β:=β) (F:=F) (ai2 h) (U F β w a env he C) (ai1 hm (λh1=>hn st.nx (bY _) (by simp[h1])) C (by rw[CN J];exact ha) ?_ hp) M;rw[anf (CV J)];exact ak8 h hr
def Fj{w:World}{a:Act}{args:List D}(M:Region.wanted o (yielded ops a.tmps)=true)(C:jd F β w env a)(ha:asks env o.op)
 (h:eX (bO env o.op) o.op=some (f,args)) (he:pD P f=true) {r:Option Nat} {n:Nat} {QX:Exit->Act->World->Prop} {K:Act->World->Prop}
 (J:∀ vs,Rs F β w args vs->Calls P f vs w λe w'=>∃ v,e=.returned v/\K (a.put o.dst v) w'):o5 r n P ops QX o K a w:=by
 let⟨vs,h1,h2⟩:=Xm (F:=F) (β:=β) (w:=w) C ha h he;rw[o5,M,bi rfl];refine⟨λ_ _=>trivial,?_⟩;rw[FL (W9 h),h1];refine⟨oS,Ll ((J vs h2).mono ?_)⟩;rintro e w' ⟨v,rfl,hk⟩;exact hk
def Ry{r:D}(hw:iI ops o st true)(ha:asks st.env o.op)(h:eX (bO st.env o.op) o.op=some (f,args))(hc:aH P f args r):cy.Ok P ops o st ⟨r,[],[],0⟩:=by
 intro F β w a m env N he C hm hr hn hN r n QX K X;have J:=CK he;refine Fj (args:=args) (hw F β w a env he C) C (by rw[CN J];exact ha) (by rw[HS (CV J)];exact h) hc.1 λvs hR=>?_;refine(XX hm hc hR).mono λe w' ⟨v,h1,h2,M,U⟩=>⟨v,h1,X v w' β h2 M U λ_ h _=>h⟩
def aap{C:List D}{r:D}(hw:iI ops o st true)(ha:asks st.env o.op)(h:eX (bO st.env o.op) o.op=some (f,args))(hs:nP P bR st.mem args C)(hc:aH P f C r)(hr:r.ld=true):
 cy.Ok P ops o st ⟨r,[],bR,0⟩:=by
 intro F β w a m env N he J hm U hn hN r n QX K hK;have M:=CK he;refine Fj (args:=args) (hw F β w a env he J) J (by rw[CN M];exact ha) (by rw[HS (CV M)];exact h) hc.1 λvs hR=>?_;refine(XY hm hs U hc (ahr hr) hR).mono λe w' ⟨v,h1,h2,X,h4⟩=>⟨v,h1,hK v w' β h2 X h4 λ_ h _=>h⟩
def abu{es:List D}{n:Nat}(hw:iI ops o st true)(ha:asks st.env o.op)(h:eX (bO st.env o.op) o.op=some (f,args))(hc:pL P f args es n t):
 cy.Ok P ops o st ⟨.rs st.nx 0 n,[(st.nx,some (.cells es t))],[],1⟩:=by
 intro F β w a m env N he C hm cQ hn hN r n QX K hK;have J:=CK he;refine Fj (args:=args) (hw F β w a env he C) C (by rw[CN J];exact ha) (by rw[HS (CV J)];exact h) hc.1 λvs hR=>?_;refine(akM hm (hn st.nx (bY _) oS) hc hR).mono λe w' ⟨v,β',h1,h2,U,X,h5⟩=>⟨v,h1,hK v w' β' h2 U X λi hi M=>?_⟩
 rw[h5 i (by simp only at M;omega)];exact hi
def aoO{r:D}(hw:iI ops o st true)(ha:asks st.env o.op)(h:eX (bO st.env o.op) o.op=some (f,args))
 (hc:∀ C M,(∀ i∈bR,st.mem i≠none->C i=st.mem i)->js P f args C M λr' m' nx'=>r'=r/\m'=dx C bF/\nx'=M):cy.Ok P ops o st ⟨r,bF,bR,0⟩:=by
 intro F β w a m env N he J hm X hn hN ro n QX K hK;have U:=CK he;have hc:=hc m N X;refine Fj (args:=args) (hw F β w a env he J) J (by rw[CN U];exact ha) (by rw[HS (CV U)];exact h) hc.1 λvs hR=>?_;refine(hc.2 F β w vs hm hN hR).mono λe w' hp=>?_;let⟨v,d,m',nx',β',h1,⟨e1,e2,e3⟩,h3,h4,h5,h6,_,h7⟩:=hp;subst e1 e2 e3;refine⟨v,h1,hK v w' β' h5 h3 h6 λi hi _=>?_⟩;rcases Nat.lt_or_ge i nx' with h|h
 .exact h7 i h hi
 .exact h4 i h
def QT(b:List (Nat×Option Row)):∀ (a:List (Nat×Option Row)) (m:Mem),dx m (a++b)=dx (dx m a) b
 |[],_=>rfl
 |(i,r)::a,m=>QT b a (up m i r)
def X8{r:Row}:∀ {us:List (Nat×Option Row)} {m:Mem},dx m us i=some r->(∃ x∈us,x.1=i/\x.2=some r)\/m i=some r
 |[],_,h=>.inr h
 |(j,s)::us,m,h=>by
  rcases X8 (us:=us) (m:=up m j s) h with⟨x,hx,e⟩|h
  .exact .inl ⟨x,by simp[hx],e⟩
  .by_cases hj:i=j
   .subst hj;rw[aw] at h;exact .inl ⟨(i,s),oS,rfl,h⟩
   .rw[aV _ _ hj] at h;exact .inr h
def Xy:∀ {us:List (Nat×Option Row)} {m m':Mem},m i=m' i->dx m us i=dx m' us i
 |[],_,_,h=>h
 |(j,s)::us,m,m',h=>Xy (us:=us) (by simp[up];split<;>simp[h])
def Zb{i:Nat}:∀ {us:List (Nat×Option Row)} {m:Mem},(∀ x∈us,x.1≠i)->dx m us i=m i
 |[],_,_=>rfl
 |(j,s)::us,m,h=>by
  rw[dx,Zb (us:=us) λx hx=>h x (by simp[hx])];exact aV _ _ λe=>h (j,s) oS e.symm
def QU{F':Nat->Prop}{β':aZ}{w:World}{r:Row}{p:Pl}(hr:LL r)(h:dG P F β w r p):dG P F' β' w r p:=by
 obtain⟨cs,e,rfl,hs⟩:=hr;cases h with
 |nil _=>exact .nil _
 |cells _ _ b o room sz c h1 h2 C J M=>
  refine .cells cs e b o room sz c h1 h2 C J λk d hd=>?_;let⟨u,U,X,uz⟩:=M k d hd;exact⟨u,U,R4 (hs d (bD hd)) X,uz⟩
def acy{F':Nat->Prop}{β':aZ}{w:World}{j off k:Nat}{v:Value}(hb:β' j=β i)(h:R F β w (.rs i off k) v):R F' β' w (.rs j off k) v:=by
 cases h with
 |oE _ _ _ _ h hv=>exact .oE j off k v (hb.trans h) hv
 |lN _ a h=>exact .lN j a (hb.trans h)
 |mJ _ _ a b o len room sz h=>exact .mJ j off a b o len room sz (hb.trans h)
 |rs _ _ _ cap b o len room sz h h1 h2 C J=>exact .rs j off k cap b o len room sz (hb.trans h) h1 h2 C J
def ak9{es:List D}{n:Nat}(hw:iI ops o st true)(ha:asks st.env o.op)(h:eX (bO st.env o.op) o.op=some (f,args))(U':Z9 st.mem bR bF args)
 (oJ:∀ d∈es,d.ld=true) (hc:∀ iK,js P f args (only bR st.mem) iK λr' m' _=>∃ q,iK<=q/\r'=.rs q 0 n/\m' q=some (.cells es t)/\∀ i∈bR,m' i=dx st.mem bF i):
 cy.Ok P ops o st ⟨.rs st.nx 0 n,bF++[(st.nx,some (.cells es t))],bR,1⟩:=by
 intro F β w a m env N he hE hm cQ hn hN ro k QX K hK;have lP:=CK he;let⟨f1,f2,f3⟩:=U'
 have GZ:∀ i∈bR,m i=st.mem i:=λi hi=>by
  let⟨r,hr,_⟩:=f1 i hi;exact cQ i hi (by simp[hr])
 have He:∀ i∈bR,∃ p,β i=some p:=λi hi=>by
  let⟨r,hr,_⟩:=f1 i hi;let⟨p,hp,_⟩:=hm.row i r ((GZ i hi).trans hr);exact⟨p,hp⟩
 have dA:β st.nx=none:=hn st.nx (bY _) (Nat.lt_succ_self _)
 have hnr:st.nx∉bR:=λhx=>by
  let⟨p,hp⟩:=He _ hx;rw[dA] at hp;cases hp
 have hrN:∀ i∈bR,i<N:=λi hi=>by
  let⟨p,hp⟩:=He i hi;rcases Nat.lt_or_ge i N with g|g
  .exact g
  .rw[hN i g] at hp;cases hp
 have hc:=hc N
 have OA:only bR st.mem=only bR m:=by
  funext i;unfold only;split
  .rename_i hi;exact(GZ i hi).symm
  .rfl
 rw[OA] at hc;refine Fj (args:=args) (hw F β w a env he hE) hE (by rw[CN lP];exact ha) (by rw[HS (CV lP)];exact h) hc.1 λvs hR=>?_
 let β2:aZ:=λi=>if i∈bR then β i else none
 let F2:Nat->Prop:=λb=>F b\/∃ i p,i∉bR/\β i=some p/\p.cn=some b
 have b2:∀ {i p},β2 i=some p->i∈bR/\β i=some p:=λ{i p} hi=>by
  simp only[β2] at hi;split at hi
  .rename_i g;exact⟨g,hi⟩
  .cases hi
 have OC:∀ {i},i∈bR->β2 i=β i:=λ{i} hi=>bi hi
 have oI:bc P F2 (only bR m) β2 w:=by
  refine⟨λi r hi=>?_,λi j p q b hp hq e X=>hm.inj i j p q b (b2 hp).2 (b2 hq).2 e X,λi p b hp e=>hm.lt i p b (b2 hp).2 e,λi p b hp e C=>?_,hm.fb.next (λb C=>?_) (λ_ h=>.inl h) λ_ _ _=>rfl⟩
  .unfold only at hi;split at hi
   .rename_i tx;let⟨p,hp,aF⟩:=hm.row i r hi;let⟨r',jh,hs⟩:=f1 i tx;rw[GZ i tx,jh] at hi;cases hi;exact⟨p,(OC tx).trans hp,QU hs aF⟩
   .cases hi
  .rcases C with C|⟨j,q,hj,hq,eq⟩
   .exact hm.nf i p b (b2 hp).2 e C
   .have:=hm.inj i j p q b (b2 hp).2 hq e eq;subst this;exact hj (b2 hp).1
  .rcases C with C|⟨j,q,_,hq,eq⟩
   .exact hm.fb.lt b C
   .exact hm.lt j q b hq eq
 have AK:Rs F2 β2 w args vs:=⟨hR.1,λk d v hd hv=>by
  have h0:=hR.2 k d v hd hv;rcases f3 d (bD hd) with ht|⟨i,off,l,hi,rfl⟩
  .refine(ht F β w v h0).lift λb hb=>⟨λC=>?_,λi p hp e=>?_⟩
   .rcases C with C|⟨j,q,_,hq,eq⟩
    .exact hb (.inl C)
    .exact hb (.inr λqB=>qB j q hq eq)
   .exact hb (.inr λqB=>qB i p (b2 hp).2 e)
  .exact acy (OC hi) h0⟩
 refine(hc.2 F2 β2 w vs oI (λi hi=>?_) AK).mono ?_
 .simp only[β2];split
  .rename_i g;have:=hrN i g;omega
  .rfl
 rintro e w' ⟨v,d,m',nx',β',h1,⟨q,hq,rfl,hmq,p8⟩,h3,h4,h5,U,h7,h8⟩;have hqr:q∉bR:=λhx=>by have:=hrN q hx;omega
 have T5:∀ i p b,i∉bR->β i=some p->p.cn=some b->β2.free b:=λi p b hi hp e j r hj X=>by
  have:=hm.inj i j p r b hp (b2 hj).2 e X;subst this;exact hi (b2 hj).1
 let β3:aZ:=λi=>if i=st.nx then β' q else if i∈bR then β' i else β i
 have Va:β3 st.nx=β' q:=bi rfl
 have OD:∀ {i},i∈bR->β3 i=β' i:=λ{i} hi=>by
  simp[β3];rw[ai (show ¬ i=st.nx from λe=>hnr (e▸hi)),bi hi]
 have OE:∀ {i},i≠st.nx->i∉bR->β3 i=β i:=λ{i} h1 h2=>by
  simp[β3];rw[ai h1,ai h2]
 have J8:∀ i p,β3 i=some p->(∃ j,β' j=some p/\((i=st.nx/\j=q)\/(i∈bR/\j=i)))\/(i≠st.nx/\i∉bR/\β i=some p):=λi p hp=>by
  by_cases M:i=st.nx
  .subst M;exact .inl ⟨q,Va▸hp,.inl ⟨rfl,rfl⟩⟩
  .by_cases e2:i∈bR
   .exact .inl ⟨i,(OD e2)▸hp,.inr ⟨e2,rfl⟩⟩
   .exact .inr ⟨M,e2,(OE M e2)▸hp⟩
 have wk:Step β w β3 w':=by
  refine⟨U.size,λb hb hf=>?_,λi p hp=>?_,U.out,λi r hp lu=>?_⟩
  rotate_left 2
  .have M:i≠st.nx:=λe=>by rw[e,dA] at hp;cases hp
   by_cases e2:i∈bR
   .exact U.lp i r ((OC e2).trans hp) ((OD e2)▸lu)
   .exact sx (U.gp r (hm.lt i _ r hp rfl) (T5 i _ r e2 hp rfl)).1
  .have xQ:β2.free b:=λi p hp e=>hf i p (b2 hp).2 e;let⟨g1,g2⟩:=U.gp b hb xQ;refine⟨g1,λi p hp e=>?_⟩;rcases J8 i p hp with⟨j,hj,_⟩|⟨_,_,hj⟩
   .exact g2 j p hj e
   .exact hf i p hj e
  .have M:i≠st.nx:=λe=>by rw[e,dA] at hp;cases hp
   by_cases e2:i∈bR
   .rw[OD e2];exact U.kp i p ((OC e2).trans hp)
   .rw[OE M e2];exact .inl hp
 have abv:∀ i p j r b,i∉bR->β i=some p->p.cn=some b->β' j=some r->r.cn=some b->False:=λi p j r b hi hp e hj X=>
  (U.gp b (hm.lt i p b hp e) (T5 i p b hi hp e)).2 j r hj X
 refine⟨v,h1,hK v w' β3 (acy Va h5) ?_ wk λi hi aR=>?_⟩
 .rw[QT];show bc P F (up (dx m bF) st.nx (some (.cells es t))) β3 w';refine⟨λi r hi=>?_,λi j p r b hp hr e X=>?_,λi p b hp e=>?_,λi p b hp e=>?_,hm.fb.next (λb C=>Nat.lt_of_lt_of_le (hm.fb.lt b C) U.size) (λ_ h=>h) λt _ C=>(U.gp _ (hm.fb.lt _ C) λi p hp e=>hm.nf i p _ (b2 hp).2 e C).1⟩
  .by_cases M:i=st.nx
   .subst M;rw[aw] at hi;cases hi;let⟨p,hp,aF⟩:=h3.row q _ hmq;exact⟨p,Va.trans hp,QU ⟨es,t,rfl,oJ⟩ aF⟩
   .rw[aV _ _ M] at hi;by_cases e2:i∈bR
    .rw[Xy (GZ i e2), <- p8 i e2] at hi;let⟨p,hp,aF⟩:=h3.row i r hi
     have hs:LL r:=by
      rw[p8 i e2] at hi;rcases X8 hi with⟨x,hx,_,hxr⟩|hi
      .exact(f2 x hx).2 r hxr
      .let⟨r',jh,hs⟩:=f1 i e2;rw[jh] at hi;cases hi;exact hs
     exact⟨p,(OD e2).trans hp,QU hs aF⟩
    .rw[Zb (i:=i) λx hx (e:x.1=i)=>e2 (e▸(f2 x hx).1)] at hi;let⟨p,hp,aF⟩:=hm.row i r hi;exact⟨p,(OE M e2).trans hp,aF.step wk λb e=>(U.gp b (hm.lt i p b hp e) (T5 i p b e2 hp e)).1⟩
  .rcases J8 i p hp with⟨i',J,ci⟩|⟨i1,i2,J⟩<;>rcases J8 j r hr with⟨j',kx,cj⟩|⟨j1,j2,kx⟩
   .have:=h3.inj i' j' p r b J kx e X;subst this;rcases ci with⟨rfl,rfl⟩|⟨ci,rfl⟩<;>rcases cj with⟨rfl,c⟩|⟨cj,c⟩
    .rfl
    .subst c;exact absurd cj hqr
    .subst c;exact absurd ci hqr
    .exact c
   .exact(abv j r i' p b j2 kx X J e).elim
   .exact(abv i p j' r b i2 J e kx X).elim
   .exact hm.inj i j p r b J kx e X
  .rcases J8 i p hp with⟨i',J,_⟩|⟨_,_,J⟩
   .exact h3.lt i' p b J e
   .exact Nat.lt_of_lt_of_le (hm.lt i p b J e) U.size
  .rcases J8 i p hp with⟨i',J,_⟩|⟨_,_,J⟩
   .exact λC=>h3.nf i' p b J e (.inl C)
   .exact hm.nf i p b J e
 .have M:i≠st.nx:=by simp only at aR;omega
  have e2:i∉bR:=λhx=>by
   let⟨p,hp⟩:=He i hx;rw[hi] at hp;cases hp
  rw[OE M e2];exact hi
end
end
end Go.Abs
