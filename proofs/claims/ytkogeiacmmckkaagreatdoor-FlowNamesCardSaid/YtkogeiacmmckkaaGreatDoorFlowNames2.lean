/- Part 2. -/
import Derived.Test.YtkogeiacmmckkaaGreatDoorFlowNames1
import Derived.ChangeKeysEq
import Derived.OrdersIn
import Derived.ProofKit
set_option linter.all false
set_option maxHeartbeats 0
set_option maxRecDepth 10000
namespace Go.Abs
open List
section
variable{cs:List D}{x:D}{p:Prop}{rd:List Nat}{k:Nat}{news:List D}{c:List Value}{vx:Value}
section
variable{P:Program}{F:Nat->Prop}{m:Mem}{nx:Nat}{β:aN}{w w':World}
def Rd.EH{b o:Nat}(h:Rd F β w b o cs):∃ c:List Value,Rl F β w cs c/\∀ (j:Nat) (u:Value),c[j]? =some u->w.cell? ((⟨b,o,none⟩:Addr).add j)=some u:=by
 let⟨us,h1,h2⟩:=h;refine⟨(range cs.length).map us,⟨oS,λk d u hk hu=>?_⟩,λj u hu=>?_⟩
 .have al:k<cs.length:=(bO.1 hk).1;simp[al] at hu;subst hu;exact⟨h2 k d hk,(h1 k al).2⟩
 .have al:j<cs.length:=by
   have:=(bO.1 hu).1;simpa using this
  simp[al] at hu;subst hu;rw[Addr.add_lit];exact(h1 j al).1
def T5(hm:aQ P F m β w){sz:Nat}{v:Value}(hx:R F β w x v)(h:kq m sz x=some (p,rd,k,news))(hp:p)
 (J:∀ i off n cs e,x=.rs i off n->m i=some (.cells cs e)->n=0\/True):
 ∃ a cap c,v=.slice a k cap/\Rl F β w news c/\c.length=k*sz/\(∀ ad,a=some ad->∀ (j:Nat) (u:Value),c[j]? =some u->w.cell? (ad.add j)=some u)/\(a=none->c=[]/\k*sz=0):=by
 cases x with
 |sl es n=>
  simp only[kq,aY,cO] at h;obtain⟨rfl,rfl,rfl,rfl⟩:=h;rcases hx.vW with⟨rfl,rfl,a,cap,rfl⟩|⟨b,o,cap,rfl,_,_,_,_,_,O⟩
  .exact⟨a,cap,[],rfl,⟨oS,oS⟩,oS,oS,oS⟩
  .let⟨c,h1,h2⟩:=(O.take (n*sz)).EH;refine⟨_,cap,c,rfl,h1,?_,λad C=>by cases C;exact h2,oS⟩;rw[h1.1,length_take];exact Nat.min_eq_left hp
 |z=>
  simp only[kq,aY,cO] at h;obtain⟨rfl,rfl,rfl,rfl⟩:=h;obtain⟨a,rfl⟩:=hx.D';exact⟨a,0,[],rfl,⟨oS,oS⟩,oS,oS,oS⟩
 |rs i off n=>
  simp[kq] at h;cases hi:m i with
  |none=>simp[hi] at h
  |some r=>
  cases r with
  |map es=>simp[hi] at h
  |raw es=>simp[hi] at h
  |bs u x T=>simp[hi] at h
  |lp k=>simp[hi] at h
  |ia f r=>simp[hi] at h
  |cells cs e=>
  simp only[hi,aY,cO] at h;obtain⟨rfl,rfl,rfl,rfl⟩:=h;rcases hx.xX hm hi with⟨rfl,rfl,rfl,mG,a,rfl⟩|⟨b,o,room,hβ,an,U⟩
  .exact⟨a,0,[],rfl,⟨oS,oS⟩,oS,oS,oS⟩
  .rcases U with⟨rfl,a,rfl⟩|⟨cap,rfl,X,g2,g3,g4⟩
   .exact⟨a,0,[],rfl,⟨oS,oS⟩,oS,oS,oS⟩
   .let⟨c,h1,h2⟩:=((an.rd.1.drop off).take (n*sz)).EH;refine⟨_,cap,c,rfl,h1,?_,λad C=>by cases C;exact h2,oS⟩;rw[h1.1];simp;omega
 |_=>simp[kq] at h
def acv(t ty e:TypeId)(i:TypeInfo)(ht:P.underlying t=some (.slice e))(hi:P.info? e=some i)(a0 a:Option Addr)(n cap c:Nat)(C:n<=cap):
 (Builtin.append_ #[t,t] ty #[.slice a0 n cap,.slice a 0 c]).run P w=.ok (.slice a0 n cap) w:=by
 cases a0<;>cases a<;>simp[Builtin.append_,run_underlying ht,sizeOf,typeInfo,hi,Builtin.lenOf,C,Builtin.firstCells,loadCells,loadCellsFrom,storeCells]
def acx(t ty e:TypeId)(i:TypeInfo)(ht:P.underlying t=some (.slice e))(hi:P.info? e=some i)(g o n cap:Nat)(cur:Array Value)(hg:w.heap[g]? =some (.cells cur e (0,0)))
 (a:Addr) (k c:Nat) (news:List Value) (hl:news.length=k*i.size) (U:∀ j u,news[j]? =some u->w.cell? (a.add j)=some u) (h1:∀ u∈news,u.oneCell'=true) (O:n+k<=cap) (J:o+n*i.size+news.length<=cur.size):
 (Builtin.append_ #[t,t] ty #[.slice (some ⟨g,o,none⟩) n cap,.slice (some a) k c]).run P w=
  .ok (.slice (some ⟨g,o,none⟩) (n+k) cap) (w.setRow g (cur.toList.take (o+n*i.size)++news++cur.toList.drop (o+n*i.size+news.length)).toArray):=by
 have hf:=run_firstCells_some (P:=P) w i.size k a k c news hl U;have C:=run_storeCells_at P g (o+n*i.size) e news 0 cur w hg (tn J) h1;simp[Nat.add_zero] at C;simp[Builtin.append_,run_underlying ht,sizeOf,typeInfo,hi,Builtin.lenOf,O,hf,Addr.add_lit,C]
def acy(t ty e:TypeId)(i:TypeInfo)(z:Value)(ht:P.underlying t=some (.slice e))(hi:P.info? e=some i)(hz:i.zero=some z)(a0:Option Addr)(n cap:Nat)(je:List Value)(ko:je.length=n*i.size)
 (holds:∀ ad,a0=some ad->∀ j v,je[j]? =some v->w.cell? (ad.add j)=some v) (h0:a0=none->n=0/\cap=0) (O:n<=cap)
 (a:Addr) (k c:Nat) (news:List Value) (hl:news.length=k*i.size) (J:∀ j v,news[j]? =some v->w.cell? (a.add j)=some v) (hg:cap<n+k) (C:n+k<=maxLen) (hb:(n+k)*i.bytes<=140737488355328):
 (Builtin.append_ #[t,t] ty #[.slice a0 n cap,.slice (some a) k c]).run P w=
  .ok (.slice (some ⟨w.heap.size,0,none⟩) (n+k) (grownCap w (n+k) cap e)) (w.drew.alloc (.cells (je.toArray++news.toArray++Builtin.zeroCells z.cells (grownCap w (n+k) cap e - (n+k))) e)):=by
 simp[maxLen] at C;cases a0 with
 |some b=>exact run_append_grow w t ty e i z ht hi hz b n cap je ko (holds b rfl) a k c news hl J hg oG (growslice_fits oG hb)
 |none=>
  obtain⟨rfl,rfl⟩:=h0 rfl;have:je=[]:=eq_nil_of_length_eq_zero (tn ko);subst this;have:=run_append_nil (P:=P) w t ty e i z ht hi hz a k c news hl J oG oG (by simp at hb;omega);simpa using this
def acF(z:Array Value)(n:Nat):(Builtin.zeroCells z n).toList.length=n*z.size:=by simp[Builtin.zeroCells]
def Rl.append{C J:List D}{O U:List Value}(h1:Rl F β w C O)(h2:Rl F β w J U):Rl F β w (C++J) (O++U):=by
 refine⟨by simp[h1.1,h2.1],λk d u hk hu=>?_⟩;by_cases al:k<C.length
 .rw[getElem?_append_left al] at hk;rw[getElem?_append_left (by rw[h1.1];exact al)] at hu;exact h1.2 k d u hk hu
 .rw[getElem?_append_right oG] at hk;rw[getElem?_append_right (by rw[h1.1];omega),h1.1] at hu;exact h2.2 _ d u hk hu
def Rl.step{β':aN}(h:Rl F β w cs c)(hs:Step β w β' w'):Rl F β' w' cs c:=⟨h.1,λk d u hk hu=>⟨(h.2 k d u hk hu).1.step hs,(h.2 k d u hk hu).2⟩⟩
def aet(hm:aQ P F m β w)(hn:β nx=none){e:TypeId}{z:Value}(U:z.cells.size=P.cellsOf e)(hc:Rl F β w cs c){n N:Nat}(hlen:cs.length=n*P.cellsOf e)(O:n<=N)(eu:N<=maxLen):
 ∃ β',aQ P F (up m nx (some (.cells cs e))) β' (w.alloc (.cells (c.toArray++Builtin.zeroCells z.cells (N - n)) e))/\Step β w β' (w.alloc (.cells (c.toArray++Builtin.zeroCells z.cells (N - n)) e))/\
  R F β' (w.alloc (.cells (c.toArray++Builtin.zeroCells z.cells (N - n)) e)) (.rs nx 0 n) (.slice (some ⟨w.heap.size,0,none⟩) n N)/\∀ i,i≠nx->β' i=β i:=by
 let⟨h2,C⟩:=GC hm hn (cs:=cs) (c:=c) (e:=e) hc.1 hc.2 (Builtin.zeroCells z.cells (N - n)).toList
 have J:(c++(Builtin.zeroCells z.cells (N - n)).toList).toArray=c.toArray++Builtin.zeroCells z.cells (N - n):=by
  apply Array.ext';simp
 rw[J] at h2 C;have e2:n*P.cellsOf e+(N - n)*P.cellsOf e=N*P.cellsOf e:=by rw[<- Nat.add_mul];congr 1;omega
 have e3:=acF z.cells (N - n);rw[U] at e3;refine⟨_,h2,C,?_,λi hi=>aW _ _ hi⟩;exact .rs nx 0 n N w.heap.size 0 _ _ _ s3 O eu oG oG
def Ww(hm:aQ P F m β w)(hn:β nx=none)(e:TypeId):aQ P F (up m nx (some (.cells [] e))) (up β nx (some .nil)) w/\Step β w (up β nx (some .nil)) w:=by
 have hs:Step β w (up β nx (some .nil)) w:=by
  refine⟨bK _,λb hb hf=>⟨rfl,λi q hq=>?_⟩,λi q hq=>.inl ?_,⟨rfl,rfl⟩,λ_ _ _ _=>pV rfl⟩
  .by_cases hi:i=nx
   .subst hi;rw[ap] at hq;cases hq;simp[Pl.blk]
   .rw[aW _ _ hi] at hq;exact hf i q hq
  .rw[aW _ _ (λe=>by rw[e,hn] at hq;cases hq)];exact hq
 have sub:∀ i q b,up β nx (some .nil) i=some q->q.blk=some b->β i=some q:=λi q b hq e=>by
  by_cases hi:i=nx
  .subst hi;rw[ap] at hq;cases hq;simp[Pl.blk] at e
  .rw[aW _ _ hi] at hq;exact hq
 refine⟨⟨λi r hi=>?_,λi j p q b hp hq e J=>hm.inj i j p q b (sub i p b hp e) (sub j q b hq J) e J,λi p b hp e=>hm.lt i p b (sub i p b hp e) e,λi p b hp e=>hm.nf i p b (sub i p b hp e) e,hm.fb⟩,hs⟩;by_cases C:i=nx
 .subst C;rw[ap] at hi;cases hi;exact⟨.nil,ap _ _ _,.nil e⟩
 .rw[aW _ _ C] at hi;let⟨p,hp,an⟩:=hm.row i r hi;exact⟨p,by rw[aW _ _ C];exact hp,an.step hs λ_ _=>rfl⟩
structure Src(P:Program)(w:World)(t u ty E:TypeId)(vx:Value)(k:Nat)(c:List Value):Prop where
 len:c.length=k*P.cellsOf E
 zero:k=0->∀ a0 n cap,n<=cap->(Builtin.append_ #[t,u] ty #[.slice a0 n cap,vx]).run P w=.ok (.slice a0 n cap) w
 new:0<k->∀ a0 n cap (je:List Value) z,(P.info? E).bind (·.zero)=some z->je.length=n*P.cellsOf E->(∀ ad,a0=some ad->∀ j v,je[j]? =some v->w.cell? (ad.add j)=some v)->(a0=none->n=0/\cap=0)->n<=cap->cap<n+k->n+k<=maxLen->(n+k)*P.bytesOf E<=140737488355328->
  (Builtin.append_ #[t,u] ty #[.slice a0 n cap,vx]).run P w=.ok (.slice (some ⟨w.heap.size,0,none⟩) (n+k) (grownCap w (n+k) cap E)) (w.drew.alloc (.cells (je.toArray++c.toArray++Builtin.zeroCells z.cells (grownCap w (n+k) cap E - (n+k))) E))
 fit:0<k->∀ g o n cap (cur:Array Value),w.heap[g]? =some (.cells cur E (0,0))->n+k<=cap->o+n*P.cellsOf E+c.length<=cur.size->(∀ v∈c,v.oneCell'=true)->
  (Builtin.append_ #[t,u] ty #[.slice (some ⟨g,o,none⟩) n cap,vx]).run P w=.ok (.slice (some ⟨g,o,none⟩) (n+k) cap) (w.setRow g (cur.toList.take (o+n*P.cellsOf E)++c++cur.toList.drop (o+n*P.cellsOf E+c.length)).toArray)
def NE(hm:aQ P F m β w){t ty:TypeId}(hx:R F β w x vx)(h:kq m (P.cellsOf (aK P t)) x=some (p,rd,k,news))(hp:p)(ht:bE P t=true)(lF:0<P.cellsOf (aK P t)):
 ∃ c,Rl F β w news c/\Src P w t t ty (aK P t) vx k c:=by
 let⟨hu,c6⟩:=ku ht;let⟨i,d,z,hi,hd,hz,_,lN,_,bZ,hb,_⟩:=tV c6;obtain⟨a,c',c,rfl,dh,O,U,R6⟩:=T5 hm hx h hp (λ_ _ _ _ _ _ _=>.inr aa)
 have X:0<k->∃ ad,a=some ad:=λhk=>by
  cases a with
  |none=>have:=(R6 rfl).2;have:=Nat.mul_pos hk lF;omega
  |some ad=>exact⟨ad,rfl⟩
 refine⟨c,dh,O,λhk a0 n cap C=>?_,λhk a0 n cap je z' J lJ xY h0 yQ hg eu mM=>?_,λhk g o n cap cur QY wg Hw oV=>?_⟩
 .subst hk;exact acv (P:=P) (w:=w) t ty _ i hu hi a0 a n cap c' C
 .obtain⟨ad,rfl⟩:=X hk;simp[hi,Option.bind_some] at J;rw[hz] at J;cases J;exact acy (P:=P) (w:=w) t ty _ i z hu hi hz a0 n cap je (by rw[bZ];exact lJ) xY h0 yQ ad k c' c (by rw[bZ];exact O) (U ad rfl) hg eu (by rw[hb];exact mM)
 .obtain⟨ad,rfl⟩:=X hk;have dU:=acx (P:=P) (w:=w) t ty _ i hu hi g o n cap cur QY ad k c' c (by rw[bZ];exact O) (U ad rfl) oV wg (by rw[bZ];omega);rw[bZ] at dU;exact dU
def F0(hm:aQ P F m β w)(hn:β nx=none){t u ty E:TypeId}{vs:Value}(dh:Rl F β w news c)(X:Src P w t u ty E vx k c)(c6:aT P E=true)(lF:0<P.cellsOf E){pre:Prop}:
 (R F β w .z vs->k<=maxLen->k*P.bytesOf E<=140737488355328->a7 P F m nx β w { pre:=pre,val:=.rs nx 0 k,bn:=[(nx,some (.cells news E))],rd:=rd,new:=1 } (do Pure.pure (Next.value (<- Builtin.append_ #[t,u] ty #[vs,vx]))))/\
 (∀ es n,R F β w (.sc es n) vs->0<k->n*P.cellsOf E=es.length->n+k<=maxLen->(n+k)*P.bytesOf E<=140737488355328->
  a7 P F m nx β w { pre:=pre,val:=.rs nx 0 (n+k),bn:=[(nx,some (.cells (es++news) E))],rd:=rd,new:=1 } (do Pure.pure (Next.value (<- Builtin.append_ #[t,u] ty #[vs,vx]))))/\
 ∀ i off n cs,R F β w (.rs i off n) vs->m i=some (.cells cs E)->off+n*P.cellsOf E=cs.length->n+k<=maxLen->(n+k)*P.bytesOf E<=140737488355328->
  a7 P F m nx β w { pre:=pre,val:=.rs nx 0 (n+k),bn:=[(i,none),(nx,some (.cells (cs.drop off++news) E))],rd:=rd,new:=1 } (do Pure.pure (Next.value (<- Builtin.append_ #[t,u] ty #[vs,vx]))):=by
 let⟨ii,d,z,hi,_,hz,_,lN,_,ati,_⟩:=tV c6;have u6:=X.len;have Pj:k=0->news=[]:=λhk=>eq_nil_of_length_eq_zero (by rw[<- dh.1,u6,hk];simp)
 have grow:∀ (β0:aN) (m0:Mem),aQ P F m0 β0 w->Step β w β0 w->β0 nx=none->(∀ i,β i=none->β0 i=none)->∀ (a0:Option Addr) (n cap:Nat) (Lq:List D) (je:List Value),Rl F β0 w Lq je->je.length=n*P.cellsOf E->
  (∀ ad,a0=some ad->∀ j v,je[j]? =some v->w.cell? (ad.add j)=some v)->(a0=none->n=0/\cap=0)->n<=cap->n+k<=maxLen->(n+k)*P.bytesOf E<=140737488355328->0<k->cap<n+k->
  ∃ v w' β',(Builtin.append_ #[t,u] ty #[.slice a0 n cap,vx]).run P w=.ok v w'/\R F β' w' (.rs nx 0 (n+k)) v/\aQ P F (up m0 nx (some (.cells (Lq++news) E))) β' w'/\Step β w β' w'/\∀ i,β i=none->(i<nx\/nx+1<=i)->β' i=none:=by
  intro β0 m0 me qz rI iI a0 n cap Lq je hold lJ xY h0 yQ eu mM hk hg;have O:=X.new hk a0 n cap je z (by simp[hi,hz]) lJ xY h0 yQ hg eu mM;have qE:Rl F β0 w.drew (Lq++news) (je++c):=(hold.append (dh.step qz)).step Uu;let⟨β',C,J,g3,g4⟩:=aet (P:=P) (nx:=nx) (e:=E) (z:=z) me.drew rI lN qE (n:=n+k) (N:=grownCap w (n+k) cap E) (by rw[<- qE.1,length_append,lJ,u6,Nat.add_mul]) (grownCap_ge w _ _ _) (grownCap_le_maxLen w _ _ _ eu);have e1:(je++c).toArray=je.toArray++c.toArray:=by simp
  rw[e1] at C J g3;refine⟨_,_,β',O,g3,C,(qz.trans Uu).trans J,λj hj rG=>?_⟩;rw[g4 j oG];exact iI j hj
 refine⟨λhs eu mM=>?_,λes n hs hk hlen eu mM=>?_,λi off n cs hs cQ BO eu mM=>?_⟩
 .obtain⟨a0,rfl⟩:=hs.D';rcases Nat.eq_zero_or_pos k with hk|hk
  .let⟨C,J⟩:=Ww hm hn E;have:=Pj hk;subst hk this;exact⟨.value (.slice a0 0 0),.slice a0 0 0,w,up β nx (some .nil),by simp[X.zero rfl a0 0 0 (bK _)],.inl rfl,.lH nx a0 s3,C,J,zA⟩
  .let⟨v,w',β',O,C,J,g3,g4⟩:=grow β m hm (Step.refl β w) hn (λ_ h=>h) a0 0 0 [] [] ⟨rfl,oS⟩ oS oS (λ_=>⟨rfl,rfl⟩) (bK _) oG (tn mM) hk oG;refine⟨.value v,v,w',β',by simp[O],.inl rfl,?_,?_,g3,g4⟩
   .simpa using C
   .simpa[cT] using J
 .cases hs with
  |sc _ _ a h=>
  rcases h.vW with⟨rfl,rfl,a',Hx,hv⟩|⟨b,o,Hx,hv,_,_,_,_,_,cw⟩
  .cases hv;let⟨v,w',β',O,C,J,g3,g4⟩:=grow β m hm (Step.refl β w) hn (λ_ h=>h) a 0 0 [] [] ⟨rfl,oS⟩ oS oS (λ_=>⟨rfl,rfl⟩) (bK _) eu mM hk oG;exact⟨.value v,v,w',β',by simp[O],.inl rfl,C,by simpa[cT] using J,g3,g4⟩
  .cases hv;let⟨je,Ii,R8⟩:=cw.EH;let⟨v,w',β',O,C,J,g3,g4⟩:=grow β m hm (Step.refl β w) hn (λ_ h=>h) (some ⟨b,o,none⟩) n n es je Ii (by rw[Ii.1];exact hlen.symm) (λad u7=>by cases u7;exact R8) oS (bK _) eu mM hk oG;exact⟨.value v,v,w',β',by simp[O],.inl rfl,C,by simpa[cT] using J,g3,g4⟩
 .have cv:i≠nx:=λe=>by
   let⟨p',ki,_⟩:=hm.row i _ cQ;rw[e,hn] at ki;cases ki
  have R9:=hm.dead i;have Mc:=Dn β w i;have eZ:up β i (some .dead) nx=none:=by rw[aW _ _ (Ne.symm cv)];exact hn
  have iI:∀ j,β j=none->up β i (some .dead) j=none:=λj hj=>by
   by_cases df:j=i
   .subst df;let⟨p',ki,_⟩:=hm.row j _ cQ;rw[hj] at ki;cases ki
   .rw[aW _ _ df];exact hj
  have small:∀ a0:Option Addr,n=0->cs.length=off->vs=.slice a0 0 0->a7 P F m nx β w { pre:=pre,val:=.rs nx 0 (n+k),bn:=[(i,none),(nx,some (.cells (cs.drop off++news) E))],rd:=rd,new:=1 } (do Pure.pure (Next.value (<- Builtin.append_ #[t,u] ty #[vs,vx]))):=by
   rintro a0 rfl ql rfl;have YI:cs.drop off=[]:=by simp;omega
   rcases Nat.eq_zero_or_pos k with rfl|hk
   .have zX:=Pj rfl;subst zX;let⟨C,J⟩:=Ww R9 eZ E;refine⟨.value (.slice a0 0 0),.slice a0 0 0,w,_,by simp[X.zero rfl a0 0 0 (bK _)],.inl rfl,.lH nx a0 s3,?_,Mc.trans J,λj hj rG=>?_⟩
    .simp only[cT,YI,append_nil];exact C
    .rw[aW _ _ (by simp only at rG;omega)];exact iI j hj
   .let⟨v,w',β',O,C,J,g3,g4⟩:=grow _ _ R9 Mc eZ iI a0 0 0 [] [] ⟨rfl,oS⟩ oS oS (λ_=>⟨rfl,rfl⟩) (bK _) oG mM hk oG;refine⟨.value v,v,w',β',by simp[O],.inl rfl,?_,?_,g3,g4⟩
    .simpa using C
    .simp only[cT,YI];exact J
  rcases hs.xX hm cQ with⟨rfl,rfl,rfl,mG,a0,rfl⟩|⟨b,o,room,hβ,an,rk⟩
  .exact small a0 rfl rfl rfl
  .rcases rk with⟨rfl,a0,rfl⟩|⟨cap,rfl,C,J,g3,g4⟩
   .exact small a0 rfl oG rfl
   .let⟨je,Ii,R8⟩:=(an.rd.1.drop off).EH;have lJ:je.length=n*P.cellsOf E:=by rw[Ii.1];simp;omega
    rcases Nat.lt_or_ge cap (n+k) with hg|hg
    .have hk:0<k:=by omega
     let⟨v,w',β',O,k1,k2,k3,k4⟩:=grow _ _ R9 Mc eZ iI (some ⟨b,o+off,none⟩) n cap (cs.drop off) je (Ii.step Mc) lJ (λad u7=>by cases u7;exact R8) oS C eu mM hk hg;exact⟨.value v,v,w',β',by simp[O],.inl rfl,k1,k2,k3,k4⟩
    ·
      cases an with
      |cells _ _ _ _ _ _ U Fg wg hle bZ hh=>
      have as6:(up β i (some .dead)) nx=none:=eZ;rcases Nat.eq_zero_or_pos k with rfl|hk
      .have zX:=Pj rfl;subst zX
       let⟨q1,q2⟩:=hm.move (w':=w) (nx:=nx) (p':=.cells b (o+off) (cs.drop off).length (room - off) (P.cellsOf E)) hβ rfl rfl hn rfl (λ_ _=>rfl) (.cells (cs.drop off) E) (λbL=>by
        refine .cells _ E b (o+off) (room - off) _ U Fg oG oP rfl λj d hj=>?_;rw[getElem?_drop] at hj;let⟨u,uK,uL,uM⟩:=hh (off+j) d hj
        exact⟨u,by rw[Nat.add_assoc];exact uK,uL.step bL,uM⟩)
       refine⟨.value (.slice (some ⟨b,o+off,none⟩) n cap),_,w,_,by simp[X.zero rfl (some ⟨b,o+off,none⟩) n cap C],.inl rfl,?_,?_,q2,λj hj rG=>?_⟩
       .have:=R.rs (F:=F) (β:=up (up β i (some .dead)) nx (some (.cells b (o+off) (cs.drop off).length (room - off) (P.cellsOf E)))) (w:=w) nx 0 n cap b (o+off) (cs.drop off).length (room - off) (P.cellsOf E) s3 C J oP oG;simpa using this
       .simp only[cT,append_nil];exact q1
       .rw[aW _ _ (by simp only at rG;omega)];exact iI j hj
      .have hmul:n*P.cellsOf E+k*P.cellsOf E<=cap*P.cellsOf E:=by rw[<- Nat.add_mul];exact Nat.mul_le_mul_right _ hg
       have oV:∀ u∈c,u.oneCell'=true:=λu hu=>by
        let⟨j,hj⟩:=dW hu;have dx:j<news.length:=by rw[<- dh.1];exact(bO.1 hj).1
        exact(dh.2 j news[j] u (by simp[dx]) hj).2
       have O:=X.fit hk b (o+off) n cap U Fg hg oG oV;have mf:news.length=k*P.cellsOf E:=by rw[<- dh.1];exact u6
       have zT:=setRow_heap w b U (U.toList.take (o+off+n*P.cellsOf E)++c++U.toList.drop (o+off+n*P.cellsOf E+c.length)).toArray E (0,0) Fg
       have KY:(U.toList.take (o+off+n*P.cellsOf E)++c++U.toList.drop (o+off+n*P.cellsOf E+c.length)).toArray.size=U.size:=by
        simp only[size_toArray,length_append,length_take,length_drop,Array.length_toList];omega
       let⟨q1,q2⟩:=hm.move (w':=w.setRow b (U.toList.take (o+off+n*P.cellsOf E)++c++U.toList.drop (o+off+n*P.cellsOf E+c.length)).toArray) (nx:=nx) (p':=.cells b (o+off) (cs.drop off++news).length (room - off) (P.cellsOf E)) hβ rfl rfl hn oS (λj hj=>setRow_other w b j _ hj) (.cells (cs.drop off++news) E) (λbL=>by
        refine .cells _ E b (o+off) (room - off) _ _ zT (by rw[KY];omega) oP rfl λj d hj=>?_;have hv:=I6 U.toList (o+off+n*P.cellsOf E) c oP (o+off+j);simp only[getElem?_toArray];by_cases al:j<(cs.drop off).length
        .rw[getElem?_append_left al,getElem?_drop] at hj;let⟨u,uK,uL,uM⟩:=hh (off+j) d hj;rw[bi (by simp at al;omega)] at hv;exact⟨u,by rw[hv,Nat.add_assoc];simpa using uK,uL.step bL,uM⟩
        .rw[getElem?_append_right oG] at hj;have dx:=(bO.1 hj).1;simp only[length_drop] at hj dx al;rw[ai oG,bi oG,show o+off+j - (o+off+n*P.cellsOf E)=j - (cs.length - off) from by omega] at hv;have Hy:j - (cs.length - off)<c.length:=by omega
         let⟨r1,r2⟩:=dh.2 _ d c[j - (cs.length - off)] hj (by simp[Hy])
         exact⟨_,by rw[hv];simp[Hy],r1.step bL,r2⟩)
       refine⟨.value (.slice (some ⟨b,o+off,none⟩) (n+k) cap),_,_,_,by simp[O],.inl rfl,?_,q1,q2,λj hj rG=>?_⟩
       .refine .rs nx 0 (n+k) cap b (o+off) _ (room - off) _ s3 hg J ?_ oG;simp only[length_append,length_drop];omega
       .rw[aW _ _ (by simp only at rG;omega)];exact iI j hj
def adx(hm:aQ P F m β w)(hn:β nx=none){t ty:TypeId}{s:D}{vs:Value}{e:ez}(hs:R F β w s vs)(hx:R F β w x vx)(h:tc P m nx t s x=some e)(hp:e.pre):
 a7 P F m nx β w e (do Pure.pure (Next.value (<- Builtin.append_ #[t,t] ty #[vs,vx]))):=by
 unfold tc at h;simp only at h;cases O:kq m (P.cellsOf (aK P t)) x with
 |none=>simp[O] at h
 |some q=>
 let⟨p,rd,k,news⟩:=q;simp[O] at h;cases s with
 |z=>
  simp[aY] at h;subst h;let⟨ht,U,J,eu,mM⟩:=hp;let⟨c,dh,X⟩:=NE (ty:=ty) hm hx O U ht J;exact(F0 hm hn dh X (ku ht).2 J).1 hs eu mM
 |rs i off n=>
  simp only at h;cases C:m i with
  |none=>simp[C] at h
  |some r=>
  cases r with
  |map es=>simp[C] at h
  |raw es=>simp[C] at h
  |bs u x T=>simp[C] at h
  |lp k=>simp[C] at h
  |ia f r=>simp[C] at h
  |cells cs e'=>
  simp[C,aY] at h;subst h;let⟨ht,R',U,J,BO,eu,mM,cw⟩:=hp;subst R';let⟨c,dh,X⟩:=NE (ty:=ty) hm hx O U ht J;exact(F0 hm hn dh X (ku ht).2 J).2.2 i off n cs hs C BO eu mM
 |_=>simp at h
end
end
section
variable{a:Value}
def OJ{b:Value}(h:tA a b=true):a=b:=by
 unfold tA at h;split at h
 .simp at h;rw[h.1,h.2]
 .simp at h;rw[h]
 .rename_i a b;simp[beq_iff_eq] at h;congr 1;cases a;cases b;simp[ByteArray.mk.injEq];exact Array.ext' (tn h)
 .cases h
def OF:∀ {a b:List Value},jV a b=true->a=b
 |[],[],_=>rfl
 |a::aS,b::bs,h=>by
  simp[jV,aH] at h;rw[OJ h.1,OF h.2]
 |[],_::_,h=>by simp[jV] at h
 |_::_,[],h=>by simp[jV] at h
def Xw{b:Value}(h:wN a b=true):a=b:=by
 unfold wN at h;split at h
 .rw[Array.ext' (OF h)]
 .exact OJ h
def lY:Value->Bool
 | .int _ _ | .bool _ | .string _=>true
 |_=>false
def aec(h:lY a=true):tA a a=true:=by
 unfold lY at h;split at h<;>simp_all[tA]
def NC:∀ {a:List Value},a.all lY=true->jV a a=true
 |[],_=>rfl
 |a::aS,h=>by
  simp only[all_cons,aH] at h;simp[jV,aec h.1,NC h.2]
variable{t:TypeId}{k key:Value}{es:List (Value×D)}{e:ez}{ts:Array TypeId}
section
variable{P:Program}
structure Kx(P:Program)(t kt et:TypeId):Prop where
 wP:P.underlying t=some (.map kt et)
 elem:aT P et=true
 zero:yR P et=true
 refl:∀ v,eN P kt v=true->wN v v=true
 one:∀ v,eN P kt v=true->v.oneCell'=true\/∃ vs,v=.agg vs
 check:∀ (w:World) (em:Bool) (v:Value),eN P kt v=true->(Instr.checkKey em 10000 kt v).run P w=.ok () w
 find:∀ (w:World) (x:Value),eN P kt x=true->∀ es:List MapEntry,(∀ e∈es,eN P kt e.key=true)->
  ((Instr.findKey kt x es).run P w=.ok none w/\∀ e∈es,e.key≠x)\/∃ j e,(Instr.findKey kt x es).run P w=.ok (some (j,e.val)) w/\es[j]? =some e/\e.key=x
 stays:∀ (w:World) (v:Value),eN P kt v=true->(Instr.keyThatStays v v).run P w=.ok v w
def MQ{kt et:TypeId}{d:TypeDesc}(hu:P.underlying t=some (.map kt et))(he:aT P et=true)(hz:yR P et=true)(hd:P.underlying kt=some d)(hk:∀ v,eN P kt v=true↔MapKept.IsKey d v):Kx P t kt et where
 wP:=hu
 elem:=he
 zero:=hz
 refl:=λv h=>by
  have:=(hk v).1 h;cases d<;>cases v<;>simp_all[MapKept.IsKey,wN,tA]
 one:=λv h=>by
  have:=(hk v).1 h;left;cases d<;>cases v<;>simp_all[MapKept.IsKey,Value.oneCell']
 check:=λw em v h=>MapKept.run_checkKey hd ((hk v).1 h) em 9999
 find:=λw x hx es J=>by
  rcases MapKept.findNow_spec ((hk x).1 hx) es 0 (λe he=>(hk _).1 (J e he)) with⟨h1,h2⟩|⟨j,e,h1,h2,C⟩
  .exact .inl ⟨MapKept.run_findKey hd h1,h2⟩
  .exact .inr ⟨j,e,by have:=MapKept.run_findKey (P:=P) (w:=w) hd h1;simpa using this,h2,C⟩
 stays:=λw v h=>MapKept.run_keyThatStays ((hk v).1 h)
def TJ{kt et:TypeId}(hu:P.underlying t=some (.map kt et))(he:aT P et=true)(hz:yR P et=true)(J:(match P.underlying kt with|some (.array _ _)|some (.struct _)=>true|_=>false)=true)
 (h1:P.keyTypeAt 9 kt=true) (h2:P.tiled 9 kt=true):Kx P t kt et:=by
 have C:=deep_law (P:=P) (m:=9) oG h1 h2 J
 have hk:∀ v,eN P kt v=true↔∃ l,keyOf P kt v=some l:=λv=>by
  unfold eN;split at J
  .simp_all[Option.isSome_iff_exists]
  .simp_all[Option.isSome_iff_exists]
  .cases J
 refine⟨hu,he,hz,λv h=>?_,λv h=>?_,λw em v h=>?_,λw x hx es U=>?_,λw v h=>?_⟩
 .let⟨l,hl⟩:=(hk v).1 h;obtain⟨xs,L,rfl,O,_⟩:=keyOf_top J hl;have:=cells_of_lits 9 kt h2 _ _ _ O;simp[wN];rw[this];refine NC (cm.2 λu hu=>?_);obtain⟨l,_,rfl⟩:=mem_map.1 hu;cases l<;>rfl
 .let⟨l,hl⟩:=(hk v).1 h;obtain⟨xs,L,rfl,_⟩:=keyOf_top J hl;exact .inr ⟨xs,rfl⟩
 .let⟨l,hl⟩:=(hk v).1 h;exact C.check w em hl
 .let⟨l,hl⟩:=(hk x).1 hx;exact C.find w hl es λe he=>(hk _).1 (U e he)
 .let⟨l,hl⟩:=(hk v).1 h;exact C.stays w hl
def Ds(h:lD P t=true):Kx P t (jb P t) (uy P t):=by
 unfold lD at h;split at h
 .rename_i kt et hu;have C:jb P t=kt:=by simp[jb,hu]
  have e2:uy P t=et:=by simp[uy,hu]
  rw[C,e2];simp[aH] at h;let⟨⟨h1,hz⟩,h2⟩:=h;split at h2
  .rename_i hd;exact MQ hu h1 hz hd λv=>by unfold eN;rw[hd];cases v<;>simp[MapKept.IsKey]
  .rename_i hd;exact MQ hu h1 hz hd λv=>by unfold eN;rw[hd];cases v<;>simp[MapKept.IsKey]
  .rename_i hd;exact MQ hu h1 hz hd λv=>by unfold eN;rw[hd];cases v<;>simp[MapKept.IsKey]
  .rename_i hd;simp[aH] at h2;exact TJ hu h1 hz (by rw[hd]) h2.1 h2.2
  .rename_i hd;simp[aH] at h2;exact TJ hu h1 hz (by rw[hd]) h2.1 h2.2
  .cases h2
 .cases h
def T2:∀ {es:List (Value×D)},gM k es=none->∀ e∈es,wN e.1 k=false
 |[],_,e,he=>by cases he
 |(k',d)::es,h,e,he=>by
  simp[gM] at h;split at h
  .cases h
  .rename_i C;simp[Option.map_eq_none_iff] at h;rcases mem_cons.1 he with rfl|he
   .simpa using C
   .exact T2 h e he
def Nk:∀ {es:List (Value×D)} {j:Nat} {d:D},gM k es=some (j,d)->∃ k',es[j]? =some (k',d)/\wN k' k=true
 |[],j,d,h=>by simp[gM] at h
 |(k',d')::es,j,d,h=>by
  simp[gM] at h;split at h
  .rename_i hv;simp[aY,cO] at h;obtain⟨rfl,rfl⟩:=h;exact⟨k',rfl,hv⟩
  .simp only[eg] at h;let⟨⟨X,J⟩,h1,h2⟩:=h;simp only[cO] at h2;obtain⟨rfl,rfl⟩:=h2;let⟨C,O,U⟩:=Nk h1;exact⟨C,tn O,U⟩
def Ge{kt et:TypeId}(L:Kx P t kt et)(w:World)(hk:eN P kt key=true){es:List (Value×D)}(qB:es.all (λe=>eN P kt e.1)=true){ms:List MapEntry}(hl:ms.length=es.length)
 (X:∀ (k:Nat) (x:Value×D) (m:MapEntry),es[k]? =some x->ms[k]? =some m->m.key=x.1) (eY:(es.map (·.1)).Nodup):
 (gM key es=none/\(Instr.findKey kt key ms).run P w=.ok none w/\(∀ e∈es,e.1≠key))\/
 ∃ j d e,gM key es=some (j,d)/\(Instr.findKey kt key ms).run P w=.ok (some (j,e.val)) w/\ms[j]? =some e/\e.key=key/\es[j]? =some (key,d):=by
 have wQ:∀ e∈ms,eN P kt e.key=true:=λe he=>by
  let⟨k,C⟩:=dW he;have al:k<es.length:=by rw[<- hl];exact(bO.1 C).1
  rw[X k es[k] e (by simp[al]) C];exact cm.1 qB _ (dG al)
 rcases L.find w key hk ms wQ with⟨h1,h2⟩|⟨j,e,h1,h2,U⟩
 .left
  have bC:∀ e∈es,e.1≠key:=λe he hke=>by
   let⟨k,C⟩:=dW he;have al:k<ms.length:=by rw[hl];exact(bO.1 C).1
   exact h2 ms[k] (dG al) ((X k e ms[k] C (by simp[al])).trans hke)
  refine⟨?_,h1,bC⟩;cases O:gM key es with
  |none=>rfl
  |some x=>
   let⟨j,d⟩:=x;let⟨k',U,J⟩:=Nk O;exact absurd (Xw J) (bC _ (cL U))
 .right;have al:j<es.length:=by rw[<- hl];exact(bO.1 h2).1
  have hej:es[j]? =some es[j]:=by simp[al]
  have gB:es[j].1=key:=(X j es[j] e hej h2).symm.trans U;cases O:gM key es with
  |none=>
   have:=T2 O es[j] (dG al);rw[gB,L.refl key hk] at this;cases this
  |some x=>
   let⟨j',d⟩:=x;let⟨k',J,h5⟩:=Nk O;have C:=Xw h5;subst C;have mF:j'<es.length:=(bO.1 J).1
   have Ie:j'=j:=by
    refine(getElem_inj (h₀:=tn mF) (h₁:=tn al) eY).1 ?_;simp[getElem_map];have:=(bO.1 J).2;rw[this,gB]
   subst Ie;exact⟨j',d,e,rfl,h1,h2,U,J⟩
variable{F:Nat->Prop}{m:Mem}{nx:Nat}{β:aN}{w:World}
def Wp:∀ {cs:List D} {vs us:List Value},Ec cs=some vs->us.length=cs.length->(∀ (k:Nat) (d:D) (u:Value),cs[k]? =some d->us[k]? =some u->R F β w d u)->us=vs
 |[],vs,us,h,hl,_=>by
  simp[Ec] at h;subst h;simpa using hl
 |d::cs,vs,us,h,hl,hr=>by
  cases us with
  |nil=>simp at hl
  |cons u us=>
   have h0:=hr 0 d u rfl rfl;cases d with
   |s v=>
    simp[Ec,eg] at h;obtain⟨C,h1,rfl⟩:=h;rw[h0.cX.1,Wp (us:=us) h1 (tn hl) λk d u hd hu=>hr (k+1) d u (tn hd) (tn hu)]
   |_=>simp[Ec] at h
def D4{d:D}{v:Value}(hk:qk d=some key)(h:R F β w d v):v=key:=by
 unfold qk at hk;split at hk
 .rw[h.cX.1];simpa using hk
 .obtain⟨us,rfl,hl,hr⟩:=h.ua;simp[eg] at hk;obtain⟨vs,h1,rfl⟩:=hk;rw[Wp h1 hl hr]
 .cases hk
def R.GR(hm:aQ P F m β w){i:Nat}{v:Value}(h:R F β w (.mp i) v)(hi:m i=some (.map es)):
 ∃ r ms clock,β i=some (.map r)/\v=.map (some r)/\w.heap[r]? =some (.map ms clock)/\ms.size=es.length/\(es.map (·.1)).Nodup/\
  ∀ (k:Nat) (x:Value×D) (m:MapEntry),es[k]? =some x->ms[k]? =some m->m.key=x.1/\R F β w x.2 m.val:=by
 let⟨p,hp,an⟩:=hm.row i _ hi;cases h with
 |Co _ _ h _=>rw[h] at hp;cases hp;cases an
 |mp _ r h=>
  rw[h] at hp;cases hp;cases an with
  |map _ _ ms clock h1 h2 C J=>exact⟨r,ms,clock,h,rfl,h1,h2,C,J⟩
def R.ai2{v:Value}(h:R F β w (.im es) v):
 ∃ r ms clock,v=.map (some r)/\w.heap[r]? =some (.map ms clock)/\ms.size=es.length/\(es.map (·.1)).Nodup/\
  ∀ (k:Nat) (x:Value×D) (m:MapEntry),es[k]? =some x->ms[k]? =some m->m.key=x.1/\R F β w x.2 m.val:=by
 cases h with
 |im _ r ms clock hf hb hc hl eY hk hh=>exact⟨r,ms,clock,rfl,hc,hl,eY,λk x m hx hm=>⟨hk k x m hx hm,hh k x m hx hm⟩⟩
def JN(ht:aT P t=true)(C:yR P t=true):∃ v,(zeroValue t).run P w=.ok v w/\R F β w (rh P t) v:=by
 let⟨i,d,z,hi,_,hz,uY,lN,U,_,_,h4⟩:=tV ht;let⟨X,c2⟩:=BB (F:=F) (β:=β) (w:=w) U h4;refine⟨z,by simp[zeroValue,typeInfo,hi,hz],?_⟩;unfold rh;unfold yR at C;simp[hi,Option.bind_some,hz] at C
 have single:(∀ cs,z≠ .agg cs)->bM P t=false->R F β w ((bm P t).headD .u) z:=λJ ha=>by
  have hc:z.cells.toList=[z]:=by cases z<;>first|rfl|exact absurd rfl (J _)
  have:bm P t=[l0 z]:=by rw[U,hc];rfl
  rw[this];exact Pf z
 split at C
 .rename_i cs O;simp[aY] at O;subst O;rw[bi C];have:=R.agg (F:=F) (β:=β) (w:=w) (bm P t) cs.toList (by simpa[Value.cells] using X) λk d u hd hu=>(c2 k d u hd (by simpa[Value.cells] using hu)).1;simpa using this
 .rename_i u J hu;simp[Bool.not_eq_true'] at C;simp[aY] at hu;rw[ai (by simp[C])];exact single (λcs h=>J cs (by rw[<- hu,h])) C
 .cases C
def adm(hm:aQ P F m β w){x k:D}{ok:Bool}{vx U:Value}(hx:R F β w x vx)(hk:R F β w k U)(h:pW P m t x k ok=some e)(hp:e.pre):
 a7 P F m nx β w e (do Pure.pure (Next.value (<- Instr.lookup t vx U ok))):=by
 unfold pW at h;split at h
 .rename_i key i J;rw[D4 J hk];split at h
  .rename_i es hi;cases h;let⟨h1,h2,O⟩:=hp;have L:=Ds h1;obtain⟨r,ms,clock,X,rfl,hb,hl,eY,hh⟩:=hx.GR hm hi;let⟨z,hz,C⟩:=JN (F:=F) (β:=β) (w:=w) L.elem L.zero;rcases Ge L w h2 O (ms:=ms.toList) (tn hl) (λk x m hx hm=>(hh k x m hx (tn hm)).1) eY with⟨f1,f2,_⟩|⟨j,d,en,f1,f2,f3,f4,f5⟩
   .refine⟨.value (if ok then .tuple #[z,.bool false] else z),_,w,β,?_,.inl rfl,?_,hm,Step.refl β w,λ_ h _=>h⟩
    .simp[Instr.lookup,run_underlying L.wP,MapKept.run_getObj_map hb,L.check w _ key h2,f2,hz]
    .simp[f1,jM];cases ok
     .exact C
     .exact .bu _ [z,.bool false] rfl λk d u hd hu=>by
       match k with
       |0=>simp at hd hu;subst hd;subst hu;exact C
       |1=>simp at hd hu;subst hd;subst hu;exact .s _ rfl
       |k+2=>simp at hd
   .have hv:=(hh j _ en f5 (tn f3)).2;refine⟨.value (if ok then .tuple #[en.val,.bool true] else en.val),_,w,β,?_,.inl rfl,?_,hm,Step.refl β w,λ_ h _=>h⟩
    .simp[Instr.lookup,run_underlying L.wP,MapKept.run_getObj_map hb,L.check w _ key h2,f2]
    .simp[f1,jM];cases ok
     .exact hv
     .exact .bu _ [en.val,.bool true] rfl λk d u hd hu=>by
       match k with
       |0=>simp at hd hu;subst hd;subst hu;exact hv
       |1=>simp at hd hu;subst hd;subst hu;exact .s _ rfl
       |k+2=>simp at hd
  .cases h
 .rename_i key es J;rw[D4 J hk]
  .cases h;let⟨h1,h2,O⟩:=hp;have L:=Ds h1;obtain⟨r,ms,clock,rfl,hb,hl,eY,hh⟩:=hx.ai2;let⟨z,hz,C⟩:=JN (F:=F) (β:=β) (w:=w) L.elem L.zero;rcases Ge L w h2 O (ms:=ms.toList) (tn hl) (λk x m hx hm=>(hh k x m hx (tn hm)).1) eY with⟨f1,f2,_⟩|⟨j,d,en,f1,f2,f3,f4,f5⟩
   .refine⟨.value (if ok then .tuple #[z,.bool false] else z),_,w,β,?_,.inl rfl,?_,hm,Step.refl β w,λ_ h _=>h⟩
    .simp[Instr.lookup,run_underlying L.wP,MapKept.run_getObj_map hb,L.check w _ key h2,f2,hz]
    .simp[f1,jM];cases ok
     .exact C
     .exact .bu _ [z,.bool false] rfl λk d u hd hu=>by
       match k with
       |0=>simp at hd hu;subst hd;subst hu;exact C
       |1=>simp at hd hu;subst hd;subst hu;exact .s _ rfl
       |k+2=>simp at hd
   .have hv:=(hh j _ en f5 (tn f3)).2;refine⟨.value (if ok then .tuple #[en.val,.bool true] else en.val),_,w,β,?_,.inl rfl,?_,hm,Step.refl β w,λ_ h _=>h⟩
    .simp[Instr.lookup,run_underlying L.wP,MapKept.run_getObj_map hb,L.check w _ key h2,f2]
    .simp[f1,jM];cases ok
     .exact hv
     .exact .bu _ [en.val,.bool true] rfl λk d u hd hu=>by
       match k with
       |0=>simp at hd hu;subst hd;subst hu;exact hv
       |1=>simp at hd hu;subst hd;subst hu;exact .s _ rfl
       |k+2=>simp at hd
 .rename_i key J;rw[D4 J hk];cases h;let⟨h1,h2⟩:=hp;have L:=Ds h1;rw[hx.cX.1];let⟨z,hz,C⟩:=JN (F:=F) (β:=β) (w:=w) L.elem L.zero;rcases Ge L w h2 (es:=[]) rfl (ms:=[]) rfl oS oS with⟨f1,f2,_⟩|⟨j,d,en,f1,f2,f3,f4,f5⟩
  .refine⟨.value (if ok then .tuple #[z,.bool false] else z),_,w,β,?_,.inl rfl,?_,hm,Step.refl β w,λ_ h _=>h⟩
   .simp[Instr.lookup,run_underlying L.wP,L.check w _ key h2,f2,hz]
   .simp[jM];cases ok
    .exact C
    .exact .bu _ [z,.bool false] rfl λk d u hd hu=>by
      match k with
      |0=>simp at hd hu;subst hd;subst hu;exact C
      |1=>simp at hd hu;subst hd;subst hu;exact .s _ rfl
      |k+2=>simp at hd
  .simp at f5
 .cases h
def adn{r:Nat}{o o':Obj}(hb:w.heap[r]? =some o):(w.heap.setIfInBounds r o').size=w.heap.size/\(w.heap.setIfInBounds r o')[r]? =some o'/\∀ k,k≠r->(w.heap.setIfInBounds r o')[k]? =w.heap[k]? :=
 ⟨oS,(MapKept.heap_set hb).1,λk hk=>(MapKept.heap_set hb).2 k hk⟩
def Jh(hm:aQ P F m β w){i r:Nat}{ms:Array MapEntry}{clock:Nat}(C:β i=some (.map r))(hb:w.heap[r]? =some (.map ms clock)){es':List (Value×D)}{ms':Array MapEntry}{clock':Nat}
 (hl:ms'.size=es'.length) (eY:(es'.map (·.1)).Nodup) (hh:∀ (k:Nat) (x:Value×D) (m:MapEntry),es'[k]? =some x->ms'[k]? =some m->m.key=x.1/\R F β w x.2 m.val):
 aQ P F (up m i (some (.map es'))) β { w with heap:=w.heap.setIfInBounds r (.map ms' clock') }/\Step β w β { w with heap:=w.heap.setIfInBounds r (.map ms' clock') }:=by
 let⟨J,q2,O⟩:=adn (o':=.map ms' clock') hb;have hs:=Dk (w':={ w with heap:=w.heap.setIfInBounds r (.map ms' clock') }) hm C rfl (by simp[J]) O;refine⟨hm.write C rfl J O _ (.map es' r ms' clock' q2 hl eY λk x X hx U=>?_),hs⟩;let⟨h1,h2⟩:=hh k x X hx U;exact⟨h1,h2.step hs⟩
def T3(hm:aQ P F m β w){x k v:D}{vx vk J:Value}(hx:R F β w x vx)(hk:R F β w k vk)(hv:R F β w v J)(h:pX P m t x k v=some e)(hp:e.pre):
 a7 P F m nx β w e (do Instr.mapUpdate t vx vk J;Pure.pure Next.skip):=by
 unfold pX at h;split at h
 .rename_i key i yB;rw[D4 yB hk];split at h
  .rename_i es hi;cases h;let⟨h1,h2,h3⟩:=hp;have L:=Ds h1;obtain⟨r,ms,clock,hβ,rfl,hb,hl,eY,hh⟩:=hx.GR hm hi;rcases Ge L w h2 h3 (ms:=ms.toList) (tn hl) (λk x m hx hm=>(hh k x m hx (tn hm)).1) eY with⟨f1,f2,f3⟩|⟨j,d,en,f1,f2,f3,f4,f5⟩
   .let⟨O,U⟩:=Jh (P:=P) hm hβ hb (es':=oU key v es) (ms':=ms.push { key,val:=J,born:=clock }) (clock':=clock+1) (by simp[oU,f1,hl])
     (by
      simp[oU,f1,map_append,map_cons,map_nil];rw[nodup_append];refine⟨eY,oS,λa ha b mg=>?_⟩;simp[mem_singleton] at mg;subst mg;obtain⟨y,hy,rfl⟩:=mem_map.1 ha
      exact f3 y hy)
     (λk x mm hx C=>by
      simp[oU,f1] at hx;rcases Nat.lt_or_ge k es.length with al|bJ
      .rw[getElem?_append_left al] at hx;rw[Array.getElem?_push_lt oG] at C;exact hh k x mm hx (by rw[<- C];simp[show k<ms.size by omega])
      .rw[getElem?_append_right bJ] at hx
       have Ff:k - es.length=0:=by
        have:=(bO.1 hx).1;simp at this;omega
       rw[Ff] at hx;simp at hx;subst hx;have:k=ms.size:=by omega
       subst this;simp at C;subst C
       exact⟨rfl,hv⟩)
    exact⟨.skip,undef,_,β,by simp[Instr.mapUpdate,run_underlying L.wP,MapKept.run_getObj_map hb,L.check w _ key h2,f2,MapKept.run_setObj_map _ hb],.inr ⟨rfl,rfl⟩,.bu [] [] rfl oS,O,U,λ_ h _=>h⟩
   .have Lp:j<es.length:=(bO.1 f5).1
    let⟨O,U⟩:=Jh (P:=P) hm hβ hb (es':=oU key v es) (ms':=ms.modify j λe=>{ e with key:=key,val:=J }) (clock':=clock) (by simp[oU,f1,hl])
     (by
      have:(oU key v es).map (·.1)=es.map (·.1):=by
       simp[oU,f1,map_set]
       have h5:(es.map (·.1))[j]'(tn Lp)=key:=by
        have:=(bO.1 f5).2;simp[this]
       rw[<- h5];exact set_getElem_self _
      rw[this];exact eY)
     (λk x mm hx C=>by
      simp[oU,f1] at hx;rw[Array.getElem?_modify] at C;by_cases X:k=j
      .subst X;simp only[bi] at C;rw[getElem?_set_self Lp] at hx;simp only[aY] at hx;subst hx;simp only[eg] at C;obtain⟨en',_,rfl⟩:=C;exact⟨rfl,hv⟩
      .rw[ai (Ne.symm X)] at C;rw[getElem?_set_ne (Ne.symm X)] at hx
       exact hh k x mm hx C)
    have hj:ms[j]? =some en:=tn f3
    exact⟨.skip,undef,_,β,by simp[Instr.mapUpdate,run_underlying L.wP,MapKept.run_getObj_map hb,L.check w _ key h2,f2,hj,f4,L.stays w key h2,MapKept.run_setObj_map _ hb],.inr ⟨rfl,rfl⟩,.bu [] [] rfl oS,O,U,λ_ h _=>h⟩
  .cases h
 .cases h
def ahQ(h:ts.size≠0):ts[0]? =some (ts.getD 0 0):=by
 have:0<ts.size:=by omega
 simp[Array.getD_eq_getD_getElem?,this]
def ado(hm:aQ P F m β w){ty:TypeId}(nY:ts.size≠0){x k:D}{vx vk:Value}(hx:R F β w x vx)(hk:R F β w k vk)(h:xH P m (ts.getD 0 0) x k=some e)(hp:e.pre):
 a7 P F m nx β w e (do Pure.pure (Next.value (<- Builtin.delete_ ts ty #[vx,vk]))):=by
 have uZ:=ahQ nY;generalize ts.getD 0 0=t at*
 unfold xH at h;split at h
 .rename_i key i yB;rw[D4 yB hk];split at h
  .rename_i es hi;cases h;let⟨h1,h2,h3⟩:=hp;have L:=Ds h1;obtain⟨r,ms,clock,hβ,rfl,hb,hl,eY,hh⟩:=hx.GR hm hi;rcases Ge L w h2 h3 (ms:=ms.toList) (tn hl) (λk x m hx hm=>(hh k x m hx (tn hm)).1) eY with⟨f1,f2,f3⟩|⟨j,d,en,f1,f2,f3,f4,f5⟩
   .let⟨U,X⟩:=Jh (P:=P) hm hβ hb (es':=wx key es) (ms':=ms) (clock':=clock) (by simp[wx,f1,hl]) (by simpa[wx,f1] using eY) (λk x O hx C=>hh k x O (by simpa[wx,f1] using hx) C);exact⟨.value (.tuple #[]),.tuple #[],_,β,by simp[Builtin.delete_,uZ,run_underlying L.wP,MapKept.run_getObj_map hb,L.check w _ key h2,f2,MapKept.run_setObj_map _ hb],.inl rfl,.bu [] [] rfl oS,U,X,λ_ h _=>h⟩
   .have Lp:j<es.length:=(bO.1 f5).1;have J:j<ms.size:=by omega
    have he:∀ k,(ms.eraseIdxIfInBounds j)[k]? =if k<j then ms[k]? else ms[k+1]? :=λk=>by
     have h0:(ms.eraseIdxIfInBounds j).toList=ms.toList.eraseIdx j:=by simp[Array.eraseIdxIfInBounds,J]
     rw[<- Array.getElem?_toList,h0,getElem?_eraseIdx];simp
    let⟨U,X⟩:=Jh (P:=P) hm hβ hb (es':=wx key es) (ms':=ms.eraseIdxIfInBounds j) (clock':=clock) (by simp[wx,f1,Array.eraseIdxIfInBounds,J,hl,length_eraseIdx,Lp])
     (by simp[wx,f1];exact List.Nodup.sublist ((eraseIdx_sublist es j).map _) eY)
     (λk x O hx C=>by
      simp[wx,f1,getElem?_eraseIdx] at hx;rw[he] at C;split at hx
      .rename_i gB;rw[bi gB] at C;exact hh k x O hx C
      .rename_i gB;rw[ai gB] at C;exact hh (k+1) x O hx C)
    exact⟨.value (.tuple #[]),.tuple #[],_,β,by simp[Builtin.delete_,uZ,run_underlying L.wP,MapKept.run_getObj_map hb,L.check w _ key h2,f2,MapKept.run_setObj_map _ hb],.inl rfl,.bu [] [] rfl oS,U,X,λ_ h _=>h⟩
  .cases h
 .cases h
end
end
section
def T1{a b:Value}(h:BJ a b=true):lY a=true/\lY b=true:=by
 unfold BJ at h;split at h<;>first|exact⟨rfl,rfl⟩|cases h
def Ek(xs ys:List Value):Prop:=xs.length=ys.length/\∀ (k:Nat) (x y:Value),xs[k]? =some x->ys[k]? =some y->BJ x y=true
variable{t:TypeId}
section
variable{P:Program}
def adl{xs ys:List Value}(h:Ek xs ys):(∀ x∈xs,lY x=true)/\∀ y∈ys,lY y=true:=by
 refine⟨λx hx=>?_,λy hy=>?_⟩
 .let⟨k,hk⟩:=dW hx;have al:k<ys.length:=by rw[<- h.1];exact(bO.1 hk).1
  exact(T1 (h.2 k x ys[k] hk (by simp[al]))).1
 .let⟨k,hk⟩:=dW hy;have al:k<xs.length:=by rw[h.1];exact(bO.1 hk).1
  exact(T1 (h.2 k xs[k] y (by simp[al]) hk)).2
def aea(w:World)(d:Nat)(ht:wv P t=true){x y:Value}(hx:lW x=zU P t)(hk:BJ x y=true):
 ∃ r:Bool,(Op.equalIn (d+1) t x y).run P w=.ok r w/\(r=true↔x=y):=by
 unfold BJ at hk;unfold zU at hx;split at hk
 .rename_i k a k' b;simp[beq_iff_eq] at hk;subst hk;split at hx<;>simp[lW] at hx;rename_i hu;exact⟨a==b,run_equalIn_int w d t _ _ a b hu,oS⟩
 .rename_i a b;split at hx<;>simp[lW] at hx;rename_i hu;exact⟨a==b,run_equalIn_bool' w d t a b hu,oS⟩
 .rename_i a b;split at hx<;>simp[lW] at hx;rename_i hu;refine⟨a==b,?_,?_⟩
  .rw[run_equalIn_string w d t a b hu,beq_toListBytes]
  .rw[MapKept.bytes_beq];simp
 .cases hk
def step_eq(w:World)(d:Nat)(ht:wv P t=true){xs ys:Array Value}(hk:Ek xs.toList ys.toList){off:Nat}(C:off<xs.size)(O:∀ x,xs.toList[off]? =some x->lW x=zU P t):
 ∃ a b r,(part t xs off).run P w=.ok a w/\(part t ys off).run P w=.ok b w/\(Op.equalIn (d+1) t a b).run P w=.ok r w/\(r=true↔xs.toList[off]? =ys.toList[off]?):=by
 have bZ:xs.size=ys.size:=tn hk.1
 have h0:=ht;simp[wv,aH,Bool.not_eq_true'] at h0;have J:off<ys.size:=by omega
 let⟨r,hr,U⟩:=aea (P:=P) w d ht (x:=xs[off]) (y:=ys[off]) (O _ (by simp[C])) (hk.2 off _ _ (by simp[C]) (by simp[J]));refine⟨xs[off],ys[off],r,?_,?_,hr,?_⟩
 .unfold part;simp[F8 w (DA h0.1.2),h0.2,C]
 .unfold part;simp[F8 w (DA h0.1.2),h0.2,J]
 .rw[U];simp[C,J]
def TG(w:World)(d:Nat){e:TypeId}(ht:wv P e=true){xs ys:Array Value}(hk:Ek xs.toList ys.toList):∀ (is:List Nat),(∀ i∈is,i<xs.size/\∀ x,xs.toList[i]? =some x->lW x=zU P e)->
 ∃ r:Bool,(Op.eqItems (d+1) e (P.cellsOf e) xs ys is).run P w=.ok r w/\(r=true↔∀ i∈is,xs.toList[i]? =ys.toList[i]?)
 |[],_=>⟨true,by simp[Op.eqItems],oS⟩
 |i::is,h=>by
  have hc:P.cellsOf e=1:=by simp only[wv,aH,beq_iff_eq] at ht;exact ht.1.1.2
  let⟨a,b,r,p1,X,p3,C⟩:=step_eq w d ht hk (h i oS).1 (h i oS).2;let⟨r',J,O⟩:=TG w d ht hk is λj hj=>h j (by simp[hj]);rw[hc] at J ⊢;simp only[Op.eqItems,Nat.mul_one,Sem.run_bind,p1,X,p3,Result.andThen_ok];cases r
  .refine⟨false,oS,?_⟩;simp only[Bool.false_eq_true,false_iff] at C ⊢;intro U;exact C (U i oS)
  .refine⟨r',tn J,?_⟩;rw[O]
   exact⟨λh j hj=>by
    rcases mem_cons.1 hj with rfl|hj
    .exact C.1 rfl
    .exact h j hj,λh j hj=>h j (by simp[hj])⟩
def Tx(w:World)(d:Nat){xs ys:Array Value}(hk:Ek xs.toList ys.toList):∀ (fs:List Field),(∀ f∈fs,f.name≠"_"/\wv P f.type=true/\f.offset<xs.size/\∀ x,xs.toList[f.offset]? =some x->lW x=zU P f.type)->
 ∃ r:Bool,(Op.eqFields (d+1) xs ys fs).run P w=.ok r w/\(r=true↔∀ f∈fs,xs.toList[f.offset]? =ys.toList[f.offset]?)
 |[],_=>⟨true,by simp[Op.eqFields],oS⟩
 |f::fs,h=>by
  let⟨hn,ht,ho,J⟩:=h f oS;let⟨a,b,r,p1,p2,p3,C⟩:=step_eq w d ht hk ho J;let⟨r',X,O⟩:=Tx w d hk fs λg hg=>h g (by simp[hg]);simp only[Op.eqFields,hn,ne_eq,not_false_eq_true,if_true,Sem.run_bind,p1,p2,p3,Result.andThen_ok];cases r
  .refine⟨false,oS,?_⟩;simp only[Bool.false_eq_true,false_iff] at C ⊢;intro U;exact C (U f oS)
  .refine⟨r',tn X,?_⟩;rw[O]
   exact⟨λh j hj=>by
    rcases mem_cons.1 hj with rfl|hj
    .exact C.1 rfl
    .exact h j hj,λh j hj=>h j (by simp[hj])⟩
def af2:∀ {a b:List Value},a.all lY=true->(jV a b=true↔a=b):=λh=>⟨OF,λe=>by subst e;exact NC h⟩
def TH(w:World){ks:List Nat}(ht:BI P t=some ks){xs ys:List Value}(hk:Ek xs ys)(U:xs.map lW=ks):
 (Op.equal t (.agg xs.toArray) (.agg ys.toArray)).run P w=.ok (jV xs ys) w:=by
 let⟨s1,s2⟩:=adl hk;have cb:xs.all lY=true:=cm.2 s1
 have fin:∀ r:Bool,(r=true↔xs=ys)->r=jV xs ys:=λr h=>by
  have:=af2 (b:=ys) cb;cases r<;>cases hv:jV xs ys<;>simp_all
 unfold BI at ht;split at ht
 .rename_i n e hu;split at ht
  .rename_i hc;simp only[aH,beq_iff_eq] at hc;simp only[aY] at ht;subst ht;have hlen:xs.length=n:=by have:=congrArg length U;simpa using this
   have O:=hc.1;let⟨i,hi⟩:=Option.isSome_iff_exists.1 (iV (show aT P e=true by simp only[wv,aH] at O;exact O.1.2))
   let⟨r,hr,sH⟩:=TG (P:=P) w 9998 O (xs:=xs.toArray) (ys:=ys.toArray) (tn hk) (range n) λi hi=>by
    simp only[mem_range] at hi;refine⟨by simp;omega,λx hx=>?_⟩;have:(xs.map lW)[i]? =some (lW x):=by simp at hx;simp[hx]
    rw[U] at this;simp[getElem?_replicate,hi] at this;exact this.symm
   have e1:=run_equalIn_array (P:=P) (w:=w) 9999 (t:=t) (e:=e) (n:=n) xs.toArray ys.toArray hu hi;show(Op.equalIn (9999+1) t _ _).run P w=_;rw[e1,hr,fin r];rw[sH];constructor
   .intro h;apply ext_getElem?;intro i;rcases Nat.lt_or_ge i n with al|bJ
    .simpa using h i (tn al)
    .rw[getElem?_eq_none oG,getElem?_eq_none (by rw[<- hk.1];omega)]
   .rintro rfl i _;rfl
  .cases ht
 .rename_i fs hu;split at ht
  .rename_i hc;simp only[aH,beq_iff_eq,cm,bne_iff_ne,ne_eq,Bool.not_eq_true'] at hc;let⟨⟨hf,X⟩,bL⟩:=hc;simp only[aY] at ht;subst ht;have hlen:xs.length=fs.toList.length:=by have:=congrArg length U;simpa using this
   have ql:∀ (l:List Field) (o:Nat),P.runs o l=some (o+l.length)->(∀ f∈l,P.cellsOf f.type=1)->∀ (j:Nat) (f:Field),l[j]? =some f->f.offset=o+j:=by
    intro l
    induction l with
    |nil=>intro o _ _ j f hj;simp at hj
    |cons g l ih=>
     intro o ho h1 j f hj;simp only[Program.runs] at ho;split at ho
     .rename_i R5;have Ib:=h1 g oS;rw[Ib] at ho;cases j with
      |zero=>simp at hj;subst hj;simpa using R5
      |succ j=>
       have:=ih (o+1) (by rw[ho];simp;omega) (λf hf=>h1 f (by simp[hf])) j f (tn hj);omega
     .cases ho
   have O:∀ f∈fs.toList,P.cellsOf f.type=1:=λf C=>by
    have:=(hf f C).2;simp only[wv,aH,beq_iff_eq] at this;exact this.1.1.2
   have lF:=ql fs.toList 0 (tn X) O
   let⟨r,hr,sH⟩:=Tx (P:=P) w 9998 (xs:=xs.toArray) (ys:=ys.toArray) (tn hk) fs.toList λf C=>by
    let⟨j,hj⟩:=dW C;have dx:j<fs.toList.length:=(bO.1 hj).1;have ho:f.offset=j:=by have:=lF j f hj;omega
    refine⟨(hf f C).1,(hf f C).2,by rw[ho];simp;simp at hlen dx;omega,λx hx=>?_⟩;rw[ho] at hx;have h1:(xs.map lW)[j]? =some (lW x):=by simp at hx;simp[hx]
    rw[U,getElem?_map,hj] at h1;simpa using h1.symm
   have J:P.fieldsOf t=fs:=by simp[Program.fieldsOf,hu]
   have e1:=run_equalIn_struct (P:=P) w 9999 t xs.toArray ys.toArray (by rw[J];exact hu) bL;show(Op.equalIn (9999+1) t _ _).run P w=_;rw[e1,J,hr,fin r];rw[sH];constructor
   .intro h;apply ext_getElem?;intro j;rcases Nat.lt_or_ge j fs.toList.length with al|bJ
    .have h1:=h fs.toList[j] (dG al);have ho:=lF j fs.toList[j] oS;rw[Nat.zero_add] at ho;rw[ho] at h1;simpa using h1
    .rw[getElem?_eq_none oG,getElem?_eq_none (by rw[<- hk.1];omega)]
   .rintro rfl f _;rfl
  .cases ht
 .cases ht
variable{F:Nat->Prop}{m:Mem}{nx:Nat}{β:aN}{w:World}
def ND:∀ {xs ys:List D} {a b:List Value},rC xs ys=some (a,b)->xs=a.map D.s/\ys=b.map D.s/\Ek a b
 |[],[],a,b,h=>by
  simp[rC] at h;obtain⟨rfl,rfl⟩:=h;exact⟨rfl,rfl,rfl,oS⟩
 | .s x::xs,.s y::ys,a,b,h=>by
  simp only[rC] at h;split at h
  .rename_i hk;simp only[eg] at h;let⟨⟨a',J⟩,h1,h2⟩:=h;simp only[cO] at h2;obtain⟨rfl,rfl⟩:=h2;let⟨C,e2,e3,e4⟩:=ND h1;refine⟨by simp[C],by simp[e2],by simp[e3],λk u v hu hv=>?_⟩;cases k with
   |zero=>simp at hu hv;subst hu;subst hv;exact hk
   |succ k=>exact e4 k u v (tn hu) (tn hv)
  .cases h
 |[],_::_,_,_,h=>by simp[rC] at h
 |_::_,[],_,_,h=>by simp[rC] at h
 | .u::_,_::_,_,_,h | .ub::_,_::_,_,_,h | .dq _ _::_,_::_,_,_,h | .agg _::_,_::_,_,_,h | .bu _::_,_::_,_,_,h | .z::_,_::_,_,_,h | .sl _ _::_,_::_,_,_,h | .pt _::_,_::_,_,_,h
 | .rs _ _ _::_,_::_,_,_,h | .rp _ _::_,_::_,_,_,h | .mp _::_,_::_,_,_,h | .fn _ _ _::_,_::_,_,_,h=>by simp[rC] at h
 | .s _::_,.u::_,_,_,h | .s _::_,.ub::_,_,_,h | .s _::_,.dq _ _::_,_,_,h | .s _::_,.agg _::_,_,_,h | .s _::_,.bu _::_,_,_,h | .s _::_,.z::_,_,_,h | .s _::_,.sl _ _::_,_,_,h | .s _::_,.pt _::_,_,_,h
 | .s _::_,.rs _ _ _::_,_,_,h | .s _::_,.rp _ _::_,_,_,h | .s _::_,.mp _::_,_,_,h | .s _::_,.fn _ _ _::_,_,_,h=>by simp[rC] at h
def JL{a:List Value}{v:Value}(h:R F β w (.agg (a.map D.s)) v):v=.agg a.toArray:=by
 obtain⟨vs,rfl,hl,hr⟩:=h.ua;congr 2;apply ext_getElem?;intro k;rcases Nat.lt_or_ge k a.length with al|C
 .have hk:k<vs.length:=by rw[hl];simpa using al
  have:=(hr k (.s a[k]) vs[k] (by simp[al]) (by simp[hk])).cX.1;simp[al,hk,this]
 .rw[getElem?_eq_none (by rw[hl];simpa using C),getElem?_eq_none C]
def aeb(hm:aQ P F m β w){op:BinOp}(ox oy:Operand){xs ys:List D}{x y:Value}{q:Prop×D}(hx:R F β w (.agg xs) x)(hy:R F β w (.agg ys) y)(h:Bx P op t xs ys=some q)(hp:q.1):
 a7 P F m nx β w { pre:=q.1,val:=q.2 } ((do eqGuard op t ox oy x y;binOp op t x y)>>=λr=>Pure.pure (Next.value r)):=by
 unfold Bx at h;split at h
 .rename_i J z hf hz;cases h;let⟨a,b⟩:=z;let⟨C,e2,hk⟩:=ND hz;subst C e2;rw[JL hx,JL hy];have:=TH (P:=P) w hf hk hp.1;refine a7.val hm (v:=.bool (jV a b)) ?_ (.s _ rfl);have e3:(Op.equalIn 10000 t (.agg a.toArray) (.agg b.toArray)).run P w=.ok (jV a b) w:=this;simp[Sem.run_bind,run_eqGuard_agg (P:=P) w .eql t ox oy _ _ hp.2,Result.andThen_ok,run_eql_struct,e3,Sem.run_pure]
 .rename_i J z hf hz;cases h;let⟨a,b⟩:=z;let⟨C,e2,hk⟩:=ND hz;subst C e2;rw[JL hx,JL hy];have:=TH (P:=P) w hf hk hp.1;refine a7.val hm (v:=.bool !(jV a b)) ?_ (.s _ rfl);have e3:(Op.equalIn 10000 t (.agg a.toArray) (.agg b.toArray)).run P w=.ok (jV a b) w:=this;simp[Sem.run_bind,run_eqGuard_agg (P:=P) w .neq t ox oy _ _ hp.2,Result.andThen_ok,run_neq_struct,e3,Sem.run_pure]
 .cases h
end
end
section
variable{P:Program}{F:Nat->Prop}{m:Mem}{nx:Nat}{β:aN}{w:World}
def Wy{ps:Array (Nat×Operand)}{ρ:Operand->D}{a:Act}(h:∀ x∈(ps.toList.map (·.2)),R F β w (ρ x) (a.eval x)):
 (ps.toList.map λq=>(q.1,ρ q.2)).length=(ps.map λ(i,x)=>(i,a.eval x)).size/\
 ∀ (k:Nat) (p:Nat×D) (q:Nat×Value),(ps.toList.map λq=>(q.1,ρ q.2))[k]? =some p->(ps.map λ(i,x)=>(i,a.eval x))[k]? =some q->p.1=q.1/\R F β w p.2 q.2:=by
 refine⟨oS,λk p q hk hq=>?_⟩;simp only[getElem?_map,Array.getElem?_map] at hk hq;cases C:ps[k]? with
 |none=>simp[C] at hq
 |some y=>
  simp[C] at hk hq;subst hk;subst hq;exact⟨rfl,h _ (mem_map.2 ⟨y,by simpa using Array.mem_of_getElem? C,rfl⟩)⟩
def DY{xs:Array Operand}{ρ:Operand->D}{a:Act}(h:∀ x∈xs,R F β w (ρ x) (a.eval x)):
 (xs.toList.map a.eval).length=(xs.toList.map ρ).length/\∀ (k:Nat) (d:D) (v:Value),(xs.toList.map ρ)[k]? =some d->(xs.toList.map a.eval)[k]? =some v->R F β w d v:=by
 refine⟨oS,λk d v hk hv=>?_⟩;simp only[getElem?_map] at hk hv;cases hx:xs.toList[k]? with
 |none=>simp[hx] at hk
 |some x=>
  simp[hx] at hk hv;subst hk;subst hv;exact h x (tn (cL hx))
def Q2{x:Option Operand}{ρ:Operand->D}{a:Act}(h:∀ y,x=some y->R F β w (ρ y) (a.eval y)):Ro F β w (x.map ρ) (x.map a.eval):=by
 cases x with
 |none=>exact .inl ⟨rfl,rfl⟩
 |some y=>exact .inr ⟨_,_,rfl,rfl,h y rfl⟩
def a7.of_eq{e:ez}{s:Sem Next}(h:e.bn=[]/\e.new=0/\a7 P F m nx β w e s):a7 P F m nx β w e s:=h.2.2
def acG(hm:aQ P F m β w){b:Builtin}{ts:Array TypeId}{ty:TypeId}{cs:Array Bool}{ds:List D}{vs:List Value}{e:ez}(hn:e.new=1->β nx=none)(hl:vs.length=ds.length)
 (hR:∀ (k:Nat) (d:D) (v:Value),ds[k]? =some d->vs[k]? =some v->R F β w d v) (C:ts.size=ds.length) (h:fP P m nx b ts ds=some e) (hp:e.pre):a7 P F m nx β w e (builtin b ts ty cs vs.toArray):=by
 cases b
 case len=>
  match ds,vs,hl,h,hR with
  |[d],[v],_,h,hR=>
   simp only[fP] at h;exact a7.of_eq (ahU hm (by simp at C;omega) (hR 0 d v rfl rfl) h hp)
  |[],_,_,h,_=>simp[fP] at h
  |_::_::_,_,_,h,_=>simp[fP] at h
 case append=>
  match ds,vs,hl,h,hR with
  |[s,x],[v,u],_,h,hR=>
   simp only[fP] at h;split at h
   .rename_i J
    match ts,C,J,h with
    |⟨[t,t']⟩,_,J,h=>
     simp[Array.getD_eq_getD_getElem?] at J h;subst J
     have U:e.new=1:=by
      unfold tc at h;simp only at h;split at h
      .cases h
      .split at h
       .simp only[aY] at h;rw[<- h]
       .split at h
        .simp only[aY] at h;rw[<- h]
        .cases h
       .cases h
     exact adx hm (hn U) (hR 0 s v rfl rfl) (hR 1 x u rfl rfl) h hp
    |⟨[]⟩,C,_,_=>simp at C
    |⟨[_]⟩,C,_,_=>simp at C
    |⟨_::_::_::_⟩,C,_,_=>simp at C
   .cases h
  |[],_,_,h,_=>simp[fP] at h
  |[_],_,_,h,_=>simp[fP] at h
  |_::_::_::_,_,_,h,_=>simp[fP] at h
 case min=>
  match ds,vs,hl,h,hR with
  |[.s (.int k a),.s (.int k' b)],[v,u],_,h,hR=>
   simp only[fP,aY] at h;subst h;simp only at hp;subst hp;exact Wv hm (hR 0 _ v rfl rfl) (hR 1 _ u rfl rfl)
  |ds,vs,hl,h,hR=>
   unfold fP at h;split at h<;>simp_all;subst h;subst hp
   match vs,hl with
   |[v,u],_=>exact Wv hm (hR 0 _ v rfl rfl) (hR 1 _ u rfl rfl)
 case clear=>
  match ds,vs,hl,h,hR with
  |[d],[v],_,h,hR=>
   cases d with
   |rs i off n=>
    simp only[fP] at h;cases hi:m i with
    |none=>simp[hi] at h
    |some r=>
    cases r with
    |map es=>simp[hi] at h
    |raw es=>simp[hi] at h
    |bs u x T=>simp[hi] at h
    |lp k=>simp[hi] at h
    |ia f r=>simp[hi] at h
    |cells c X=>
     simp only[hi,aY] at h;subst h;let⟨h1,h2,O⟩:=hp;exact aes hm (by simp at C;omega) (hR 0 _ v rfl rfl) hi h1 h2 O
   |_=>simp[fP] at h
  |[],_,_,h,_=>simp[fP] at h
  |_::_::_,_,_,h,_=>simp[fP] at h
 case delete=>
  match ds,vs,hl,h,hR with
  |[x,k],[v,u],_,h,hR=>exact ado hm (by simp at C;omega) (hR 0 x v rfl rfl) (hR 1 k u rfl rfl) h hp
  |[],_,_,h,_=>simp[fP] at h
  |[_],_,_,h,_=>simp[fP] at h
  |_::_::_::_,_,_,h,_=>simp[fP] at h
 all_goals (simp[fP] at h)
def Uv(hm:aQ P F m β w){o:Oper}{env:Env}{a:Act}{e:ez}(hn:e.new=1->β nx=none)(hE:gq F β w env a)(ha:asks env o.op)(h:bh P o.op (bS env o.op) m nx=some e)(hp:e.pre):
 a7 P F m nx β w e (execOp a.eval o):=by
 let⟨dst,op,type,pos,after,guard⟩:=o;simp only at ha h
 have hR:(∀ c x y,op≠ .pick c x y)->∀ x∈op.operands.toList,R F β w (bS env op x) (a.eval x):=λAN x hx=>by
  have h1:bS env op x=(opd env x).core:=by cases op<;>first|rfl|exact absurd rfl (AN _ _ _)
  have h2:(opd env x).ask:=by cases op<;>first|exact ha x hx|exact absurd rfl (AN _ _ _)
  rw[h1];exact(hE.opd x).zD _ h2
 unfold execOp;cases op with
 |move x=>
  simp only[bh,aY] at h;subst h;exact a7.val hm oS (hR oS x ct)
 |assign x=>
  simp only[bh,aY] at h;subst h;exact a7.val hm oS (hR oS x ct)
 |pick c x y=>
  simp only[bh,bS] at h;cases hc:(opd env c).core.gL with
  |none=>simp[hc] at h
  |some t=>
  simp only[hc,aY] at h;subst h
  have Me:a.eval c=.bool t:=by
   have h1:=(hE.opd c).zD _ ha;unfold D.gL at hc;split at hc
   .rename_i b he;cases hc;rw[he] at h1;exact h1.cX.1
   .cases hc
  exact agc hm Me (hE.opd x) (hE.opd y) hp.1 hp.2
 |alloc t=>
  simp only[bh,aY] at h;subst h;exact aeo hm (hn rfl) hp
 |box t x=>
  simp only[bh,aY] at h;subst h;exact ahR hm (hn rfl) (hR oS x ct) hp
 |build t ps=>
  simp only[bh] at h;let⟨X,q2⟩:=Wy (F:=F) (β:=β) (w:=w) (ps:=ps) (ρ:=bS env (.build t ps)) (a:=a) (λx hx=>hR oS x (by simpa[Op.operands] using hx));split at h
  .rename_i fs hu;cases hf:lA (λi=>Option.map (λf=>(f.offset,P.cellsOf f.type)) fs[i]?) (bm P t) (ps.toList.map λq=>(q.1,bS env (.build t ps) q.2)) with
   |none=>simp[hf] at h
   |some cs=>
    simp only[hf,Option.map_some,aY] at h;subst h;exact acj hm hp.1 hu hp.2 X q2 hf
  .rename_i n e' hu;cases hf:lA (λi=>some (i*P.cellsOf e',P.cellsOf e')) (bm P t) (ps.toList.map λq=>(q.1,bS env (.build t ps) q.2)) with
   |none=>simp[hf] at h
   |some cs=>
    simp only[hf,Option.map_some,aY] at h;subst h;exact acr hm hp.1 hu hp.2 X q2 hf
  .cases h
 |buildSlice t n ps=>
  simp only[bh] at h;let⟨X,q2⟩:=Wy (F:=F) (β:=β) (w:=w) (ps:=ps) (ρ:=bS env (.buildSlice t n ps)) (a:=a) (λx hx=>hR oS x (by simpa[Op.operands] using hx));cases hf:lA (λi=>some (i*P.cellsOf (aK P t),P.cellsOf (aK P t))) (dp n (bm P (aK P t))) (ps.toList.map λq=>(q.1,bS env (.buildSlice t n ps) q.2)) with
  |none=>simp[hf] at h
  |some cs=>
   simp only[hf,Option.map_some,aY] at h;subst h;let⟨_,J,O,p4⟩:=hp;exact acw hm (hn rfl) O J p4 X q2 hf
 |load t x=>
  have hx:=hR oS x ct;simp only[bh] at h;split at h
  .rename_i cs he;rw[he] at hx;simp only[aY] at h;subst h;exact ac3 hm hx hp.1 hp.2
  .rename_i i off he;rw[he] at hx;split at h
   .rename_i cs ty hi;simp only[aY] at h;subst h;exact ac4 hm hx hi hp.1 hp.2
   .cases h
  .cases h
 |store t x y=>
  have hx:=hR oS x ct;have hy:=hR oS y ct;simp only[bh] at h;split at h
  .rename_i i off he;rw[he] at hx;split at h
   .rename_i cs ty hi;simp only[aY] at h;subst h;let⟨p1,J,O,p4⟩:=hp;exact aen hm hx hy hi p1 J O p4
   .cases h
  .cases h
 |nilCheck x=>
  have hx:=hR oS x ct;simp only[bh] at h;split at h
  .rename_i cs he;rw[he] at hx;simp only[aY] at h;subst h;let⟨ad,h1,h2⟩:=acs (pre:=True) (nx:=nx) hm hx;simp only[h1] at h2 ⊢;exact h2
  .rename_i i off he;rw[he] at hx;split at h
   .rename_i r hi;simp only[aY] at h;subst h;let⟨ad,h1,h2⟩:=acu (pre:=True) (nx:=nx) (rd:=[i]) hm hx hi;simp only[h1] at h2 ⊢;exact h2
   .cases h
  .cases h
 |binOp op t x y yt=>
  have hx:=hR oS x ct;have hy:=hR oS y ct;simp only[bh] at h;split at h
  .rename_i e' U;simp only[aY] at h;subst h;unfold nd at U;split at U
   .rename_i es n he;simp only[aY] at U;subst U;rw[he] at hx;exact adw hm t x (.const (.slice none 0 0)) hx hp
   .rename_i i off he;split at U
    .rename_i r hi;simp only[aY] at U;subst U;rw[he] at hx;exact T9 hm .eql t x _ hx hi hy hp (.inl ⟨rfl,rfl⟩)
    .cases U
   .rename_i i off he;split at U
    .rename_i r hi;simp only[aY] at U;subst U;rw[he] at hx;exact T9 hm .neq t x _ hx hi hy hp (.inr ⟨rfl,rfl⟩)
    .cases U
   .cases U
  .unfold rD at h;split at h
   .rename_i b1 b2 C e2;rw[C] at hx;rw[e2] at hy;split at h
    .simp only[Option.map_some,aY] at h;subst h;exact TM hm .eql t x y hx hy hp (.inl ⟨rfl,rfl⟩)
    .simp only[Option.map_some,aY] at h;subst h;exact TM hm .neq t x y hx hy hp (.inr ⟨rfl,rfl⟩)
    .simp at h
   .rename_i v1 v2 _ C e2;rw[C] at hx;rw[e2] at hy;cases hb:qj op v1 v2 with
    |none=>simp[hb] at h
    |some q=>
     simp only[hb,Option.map_some,aY] at h;subst h;exact af9 hm op t x y hx hy hb hp
   .rename_i xs ys C e2;rw[C] at hx;rw[e2] at hy;cases hb:Bx P op t xs ys with
    |none=>simp[hb] at h
    |some q=>
     simp only[hb,Option.map_some,aY] at h;subst h;exact aeb hm x y hx hy hb hp
   .simp at h
 |unOp op t x=>
  have hx:=hR oS x ct;simp only[bh] at h;split at h
  .rename_i v he;rw[he] at hx;cases hb:E8 op v with
   |none=>simp[hb] at h
   |some q=>
    simp only[hb,Option.map_some,aY] at h;subst h;exact ahT hm op hx hb
  .cases h
 |convert src dst x=>
  have hx:=hR oS x ct;simp only[bh] at h;split at h
  .rename_i k k' n hd he;rw[he] at hx;simp only[aY] at h;subst h;exact acL hm src dst hx hd (DA hp)
  .rename_i e' b hd he;rw[he] at hx;split at h
   .rename_i jN;simp only[aY] at h;subst h;exact aer hm hx hp.1 hd jN hp.2
   .cases h
  .cases h
 |makeFunc f fs cs=>
  simp only[bh,aY] at h;subst h;let⟨X,q2⟩:=DY (F:=F) (β:=β) (w:=w) (xs:=fs) (ρ:=bS env (.makeFunc f fs cs)) (a:=a) (λx hx=>hR oS x (by simp[Op.operands];exact .inl hx));let⟨q3,q4⟩:=DY (F:=F) (β:=β) (w:=w) (xs:=cs) (ρ:=bS env (.makeFunc f fs cs)) (a:=a) (λx hx=>hR oS x (by simp[Op.operands];exact .inr hx));have:=acN (pre:=True) (nx:=nx) hm f X q3 q2 q4;have C:(fs.toList.map a.eval).toArray=fs.map a.eval:=by apply Array.ext';simp
  have e2:(cs.toList.map a.eval).toArray=cs.map a.eval:=by apply Array.ext';simp
  rw[C,e2] at this;exact this
 |makeMap t r=>
  simp only[bh] at h;split at h
  .simp only[aY] at h;subst h;exact ac7 hm (hn rfl)
  .cases h
 |makeSlice t l c=>
  have hx:=hR oS l ct;have hy:=hR oS c ct;simp only[bh] at h;split at h
  .rename_i n k C e2;rw[C] at hx;rw[e2] at hy;simp only[aY] at h;subst h;let⟨p1,J,O,p4,p5⟩:=hp;subst J;show a7 P F m nx β w _ (do Pure.pure (Next.value (<- Instr.makeSlice t (a.eval l) (a.eval c))));rw[hx.cX.1,hy.cX.1];exact acC hm (hn rfl) p1 O p4 p5
  .cases h
 |slice t x lo hi mx=>
  have hx:=hR oS x ct;simp only[bh] at h;exact a7.of_eq (aeq hm hx (Q2 λy hy=>hR oS y (by simp[Op.operands,hy])) (Q2 λy hy=>hR oS y (by simp[Op.operands,hy])) (Q2 λy hy=>hR oS y (by simp[Op.operands,hy])) h hp)
 |fieldAddr t x k=>
  have hx:=hR oS x ct;simp only[bh] at h;split at h
  .rename_i off ft cs hf he;rw[he] at hx;simp only[aY] at h;subst h;exact ack hm hx hf hp
  .rename_i off ft i o hf he;rw[he] at hx;split at h
   .rename_i r hi;simp only[aY] at h;subst h;exact acm hm hx hi hf hp
   .cases h
  .cases h
 |field t x k=>
  have hx:=hR oS x ct;simp only[bh] at h;split at h
  .rename_i off ft cs hf he;rw[he] at hx;simp only[aY] at h;subst h;exact aep hm hx hf hp.1 hp.2
  .cases h
 |indexAddr t x i=>
  have hx:=hR oS x ct;have hy:=hR oS i ct;simp only[bh] at h;split at h
  .rename_i es n kk k C e2;rw[C] at hx;rw[e2] at hy;simp only[aY] at h;subst h;let⟨p1,J,O,_⟩:=hp;exact acn hm hx hy p1 J O
  .rename_i j off n kk k C e2;rw[C] at hx;rw[e2] at hy;split at h
   .rename_i r hj;simp only[aY] at h;subst h;let⟨p1,J,O⟩:=hp;exact aco hm hx hj hy p1 J O
   .cases h
  .rename_i j off kk k C e2;rw[C] at hx;rw[e2] at hy;split at h
   .rename_i r hj;simp only[aY] at h;subst h;let⟨p1,J,O⟩:=hp;exact aci hm hx hj hy p1 J O
   .cases h
  .cases h
 |index t x i=>
  have hx:=hR oS x ct;have hy:=hR oS i ct;simp only[bh] at h;split at h
  .rename_i b kk k C e2;rw[C] at hx;rw[e2] at hy;simp only[aY] at h;subst h;let⟨p1,J,O⟩:=hp;exact acD hm hx hy p1 J O
  .rename_i cs kk k C e2;rw[C] at hx;rw[e2] at hy;simp only[aY] at h;subst h;let⟨p1,J,O,p4⟩:=hp;exact acE hm hx hy p1 J O p4
  .cases h
 |lookup t x k ok=>exact adm hm (hR oS x ct) (hR oS k ct) (by simpa only[bh] using h) hp
 |mapUpdate t x k v=>exact T3 hm (hR oS x ct) (hR oS k ct) (hR oS v ct) (by simpa only[bh] using h) hp
 |insert t x k v=>exact T3 hm (hR oS x ct) (hR oS k ct) (hR oS v ct) (by simpa only[bh] using h) hp
 |extract x k=>
  have hx:=hR oS x ct;simp only[bh] at h;split at h
  .rename_i cs C;rw[C] at hx;simp only[aY] at h;subst h;exact ac6 hm hx hp
  .cases h
 |call c=>
  simp only[bh] at h;split at h
  .rename_i b hb;split at h
   .rename_i nY;let⟨X,q2⟩:=DY (F:=F) (β:=β) (w:=w) (xs:=c.args) (ρ:=bS env (.call c)) (a:=a) (λx hx=>hR oS x (by simp[Op.operands,Call.operands,hb];exact hx));have:=acG hm (b:=b) (ts:=c.argTypes) (ty:=type) (cs:=c.args.map λ| .const _=>true|_=>false) (e:=e) hn X q2 (tn nY) h hp;let⟨n,v,w',β',h1,h2⟩:=this;refine⟨n,v,w',β',?_,h2⟩;simp only[resolve,hb,Sem.run_bind,Sem.run_pure,Result.andThen_ok,invoke];have C:(c.args.toList.map a.eval).toArray=c.args.map a.eval:=by apply Array.ext';simp
    rw[<- C];exact h1
   .cases h
  .cases h
 |_=>simp[bh] at h
end
section
variable{d:D}{v:Value}{f:FuncId}{args:List D}{r:D}{vs:Array Value}{bP:List Nat}
section
variable{P:Program}{F F':Nat->Prop}{m:Mem}{nx:Nat}{β β':aN}{w w':World}
def R.lift(h:R F iE w d v)(hf:∀ b,¬ F b->¬ F' b/\β.free b):R F' β w d v:=
 h.gen (bK _) (λb _ h1 _=>⟨oB.refl w b,(hf b h1).2,(hf b h1).1⟩) λi p _ hp=>by cases hp
def F6{b:Nat}(h:¬ owned F β b):¬ F b/\β.free b:=by
 unfold owned at h;have h1:¬ F b:=λe=>h (.inl e);refine⟨h1,?_⟩;by_cases hb:β.free b
 .exact hb
 .exact absurd (.inr hb) h
def afS(hm:aQ P F m β w){b:Nat}(h:owned F β b):b<w.heap.size:=by
 rcases h with h|h
 .exact hm.fb.lt b h
 .unfold aN.free at h;simp only[Classical.not_forall] at h;let⟨i,p,hp,hb⟩:=h;exact hm.lt i p b hp (Decidable.not_not.1 hb)
def Vl(hm:aQ P F m β w):FB (owned F β) w:=hm.fb.next (λb hb=>afS hm hb) (λ_ h=>.inl h) λ_ _ _=>rfl
def Xj(hs:d.lY=true)(h:R F β w d v):R F' β' w' d v:=by
 have bu:∀ cs:List D,(∀ d∈cs,∃ x,d=.s x)->R F β w (.bu cs) v->R F' β' w' (.bu cs) v:=λcs hc h=>by
  obtain⟨vs,rfl,hl,hr⟩:=h.DJ;refine .bu cs vs hl λk d u hk hu=>?_;obtain⟨x,rfl⟩:=hc d (cL hk);have:=(hr k _ u hk hu).cX;rw[this.1];exact .s x this.2
 unfold D.lY at hs;split at hs
 .rw[h.cX.1];exact .s _ h.cX.2
 .obtain⟨b,rfl⟩:=h.GP;exact .ub b
 .exact bu _ oS h
 .exact bu _ oS h
 .exact bu _ oS h
 .cases hs
def Ny(h:Kept w w'):Step β w β w':=Bh h.1 h.2.1 h.2.2
def aQ.kept(hm:aQ P F m β w)(h:Kept w w'):aQ P F m β w':=hm.ext h.1 h.2.1 h.2.2
def Uk(hm:aQ P F m β w)(hc:aE P f args r)(hR:Rs F β w args vs):
 Calls P f vs w λe w'=>∃ v,e=.returned v/\R F β w' r v/\aQ P F m β w'/\Step β w β w':=
 (hc.2.2 (owned F β) w vs (Vl hm) ⟨hR.1,λk d v hd hv=>hc.2.1 d (cL hd) F β w v (hR.2 k d v hd hv)⟩).mono
  λe w' ⟨v,he,hr,hk⟩=>⟨v,he,hr.lift λb hb=>F6 hb,hm.kept hk,Ny hk⟩
def PQ(C:∀ i∈bP,∀ r,m i=some r->∃ p,β i=some p/\dA P F β w r p/\∀ b,p.blk=some b->¬ F b):∀ {aS bs:List D},qv P bP m aS bs->aS.length=bs.length/\∀ (k:Nat) (a b:D),aS[k]? =some a->bs[k]? =some b->∀ v,R F β w a v->R F iE w b v
 |[],[],_=>⟨rfl,oS⟩
 |a::aS,b::bs,h=>by
  let⟨h1,h2⟩:=PQ C h.2;refine⟨by simp[h1],λk x y hx hy v hv=>?_⟩;cases k with
  |zero=>
   simp at hx hy;subst hx;subst hy;exact h.1 F β w v C hv
  |succ k=>exact h2 k x y (tn hx) (tn hy) v hv
 |[],_::_,h=>h.elim
 |_::_,[],h=>h.elim
def PR(r:D):Prop:=∀ (F F':Nat->Prop) (β β':aN) (w w':World) (v:Value),R F β w r v->R F' β' w' r v
def adi(h:r.lY=true):PR r:=λ_ _ _ _ _ _ _=>Xj h
def Ul(hm:aQ P F m β w){J:List D}{C:Mem}(U:qv P bP C args J)(O:∀ i∈bP,C i≠none->m i=C i)(hc:aE P f J r)(hs:PR r)(hR:Rs F β w args vs):
 Calls P f vs w λe w'=>∃ v,e=.returned v/\R F β w' r v/\aQ P F m β w'/\Step β w β w':=by
 let⟨h1,h2⟩:=PQ (P:=P) (F:=F) (β:=β) (w:=w) (λi hi r hr=>by
  let⟨p,hp,an⟩:=hm.row i r (by rw[O i hi (by simp[hr])];exact hr)
  exact⟨p,hp,an,λb hb=>hm.nf i p b hp hb⟩) U
 refine(hc.2.2 F w vs hm.fb ⟨by rw[hR.1,h1],λk d v hd hv=>?_⟩).mono λe w' ⟨v,he,hr,hk⟩=>⟨v,he,hs _ _ _ _ _ _ _ hr,hm.kept hk,Ny hk⟩
 have al:k<args.length:=by rw[h1];exact(bO.1 hd).1
 exact h2 k args[k] d (by simp[al]) hd v (hR.2 k args[k] v (by simp[al]) hv)
def afT(hm:aQ P F m β w)(hn:β nx=none){es:List D}{n:Nat}{t:TypeId}(hc:mV P f args es n t)(hR:Rs F β w args vs):
 Calls P f vs w λe w'=>∃ v β',e=.returned v/\R F β' w' (.rs nx 0 n) v/\aQ P F (up m nx (some (.cells es t))) β' w'/\Step β w β' w'/\∀ i,i≠nx->β' i=β i:=by
 refine(hc.2.2 (owned F β) w vs (Vl hm) ⟨hR.1,λk d v hd hv=>hc.2.1 d (cL hd) F β w v (hR.2 k d v hd hv)⟩).mono ?_;rintro e w' ⟨v,p,he,U,C,an,hv,hk⟩;have ke:=hm.kept hk
 have hs:Step β w (up β nx (some p)) w':=by
  refine⟨hk.1,λb hb hf=>⟨hk.2.1 b hb,λi q hq=>?_⟩,λi q hq=>.inl ?_,hk.2.2,λ_ r _ _=>OB (hk.2.1 r)⟩
  .by_cases hi:i=nx
   .subst hi;rw[ap] at hq;cases hq;intro e;have:=(C b e).1;omega
   .rw[aW _ _ hi] at hq;exact hf i q hq
  .rw[aW _ _ (λe=>by rw[e,hn] at hq;cases hq)];exact hq
 have J:∀ i q b,up β nx (some p) i=some q->q.blk=some b->(i=nx/\q=p)\/(i≠nx/\β i=some q):=λi q b hq _=>by
  by_cases hi:i=nx
  .subst hi;rw[ap] at hq;cases hq;exact .inl ⟨rfl,rfl⟩
  .rw[aW _ _ hi] at hq;exact .inr ⟨hi,hq⟩
 have X:∀ b,¬ (owned F β b\/p.blk=some b)->¬ F b/\aN.free (up β nx (some p)) b:=λb hb=>by
  have h1:=F6 (F:=F) (β:=β) (b:=b) (λe=>hb (.inl e));refine⟨h1.1,λi q hq e=>?_⟩;rcases J i q b hq e with⟨_,rfl⟩|⟨_,iP⟩
  .exact hb (.inr e)
  .exact h1.2 i q iP e
 have PS:dA P F (up β nx (some p)) w' (.cells es t) p:=by
  cases an with
  |nil _=>exact .nil _
  |cells _ _ b o room sz c h1 h2 h3 h4 h5=>
   refine .cells es t b o room sz c h1 h2 h3 h4 λk d hd=>?_;let⟨u,uK,uL,uM⟩:=h5 k d hd;exact⟨u,uK,uL.lift X,uM⟩
 refine⟨v,up β nx (some p),he,?_,?_,hs,λi hi=>aW _ _ hi⟩
 .cases hv with
  |nW _ _ _ _ h _=>rw[ap] at h;cases h;exact absurd rfl U
  |lH _ a h=>rw[ap] at h;cases h;exact .lH nx a s3
  |mK _ _ a b o len room sz h=>rw[ap] at h;cases h;exact .mK nx 0 a b o len room sz s3
  |rs _ _ _ cap b o len room sz h h1 h2 h3 h4=>rw[ap] at h;cases h;exact .rs nx 0 n cap b o len room sz s3 h1 h2 h3 h4
 .refine⟨λi r hi=>?_,λi j q q' b hq iP e O=>?_,λi q b hq e=>?_,λi q b hq e=>?_,ke.fb⟩
  .by_cases cv:i=nx
   .subst cv;rw[ap] at hi;cases hi;exact⟨p,ap _ _ _,PS⟩
   .rw[aW _ _ cv] at hi;let⟨q,hq,hrq⟩:=hm.row i r hi;exact⟨q,by rw[aW _ _ cv];exact hq,hrq.step hs λb hb=>hk.2.1 b (hm.lt i q b hq hb)⟩
  .rcases J i q b hq e with⟨rfl,rfl⟩|⟨hi,h1⟩<;>rcases J j q' b iP O with⟨rfl,rfl⟩|⟨hj,h2⟩
   .rfl
   .have:=(C b e).1;have:=hm.lt j q' b h2 O;omega
   .have:=(C b O).1;have:=hm.lt i q b h1 e;omega
   .exact hm.inj i j q q' b h1 h2 e O
  .rcases J i q b hq e with⟨_,rfl⟩|⟨_,h1⟩
   .exact(C b e).2
   .exact ke.lt i q b h1 e
  .rcases J i q b hq e with⟨_,rfl⟩|⟨_,h1⟩
   .intro hF;have:=hm.fb.lt b hF;have:=(C b e).1;omega
   .exact hm.nf i q b h1 e
def TX{o:Oper}{env:Env}{a:Act}(O:gq F β w env a)(ha:asks env o.op)(h:eB (bS env o.op) o.op=some (f,args))(he:nB P f=true):
 ∃ vs,(execOp a.eval o).run P w=.ok (.enter f vs) w/\Rs F β w args vs:=by
 let⟨dst,op,type,pos,after,guard⟩:=o;simp only at ha h;cases op with
 |call c=>
  simp only[eB] at h;have hR:∀ x∈(Op.call c).operands.toList,R F β w (bS env (.call c) x) (a.eval x):=λx hx=>(O.opd x).zD _ (ha x hx);split at h
  .rename_i g hg;split at h
   .rename_i k fs cs hk;simp only[aY,cO] at h;obtain⟨rfl,rfl⟩:=h;have h1:=hR g (by simp[Op.operands,Call.operands,hg]);rw[hk] at h1;let⟨q1,U⟩:=DY (F:=F) (β:=β) (w:=w) (xs:=c.args) (ρ:=bS env (.call c)) (a:=a) (λx hx=>hR x (by simp[Op.operands,Call.operands];exact .inr hx));generalize hv:a.eval g=v at h1;cases h1 with
    |fn _ _ _ us vs hl mb hh J=>
    refine⟨us.toArray++c.args.map a.eval++vs.toArray,?_,?_,?_⟩
    .unfold execOp;simp only[resolve,hg,Sem.run_bind,hv,Deferred.ofValue,Sem.run_pure,Result.andThen_ok,invoke];unfold callFunc;unfold nB at he;simp only[Sem.run_bind,run_program,Result.andThen_ok];split at he
     .rename_i fn X;simp only[aH,Bool.not_eq_true'] at he
      have hb:fn.body.isNone=false:=by
       cases L1:fn.body<;>simp_all
      rw[X];simp only[he.1,hb,Bool.false_eq_true,if_false,Sem.run_pure]
     .cases he
    .simp[hl,mb]
    .intro j d u hd hu;simp only[append_assoc] at hd;simp only[Array.append_assoc] at hu;rcases Nat.lt_or_ge j fs.length with hj|hj
     .rw[getElem?_append_left hj] at hd;rw[Array.getElem?_append_left (by simpa[hl] using hj)] at hu;exact hh j d u hd (tn hu)
     .rw[getElem?_append_right hj] at hd;rw[Array.getElem?_append_right (by simpa[hl] using hj)] at hu;simp only[size_toArray,hl] at hu;generalize j - fs.length=j' at hd hu;rcases Nat.lt_or_ge j' (c.args.toList.map (bS env (.call c))).length with C|C
      .rw[getElem?_append_left C] at hd;rw[Array.getElem?_append_left (tn C)] at hu;exact U j' d u hd (tn hu)
      .rw[getElem?_append_right C] at hd;rw[Array.getElem?_append_right (tn C)] at hu;exact J _ d u hd (tn hu)
   .cases h
  .cases h
 |_=>simp[eB] at h
end
end
section
variable{o:Op}{ρ:Operand->D}{m m':Mem}{t:TypeId}{e:ez}
section
variable{P:Program}
def ahL{C:Operand->D}(h:∀ x∈o.operands,C x=ρ x)(m:Mem)(nx:Nat):bh P o C m nx=bh P o ρ m nx:=by
 have O:∀ ps:Array (Nat×Operand),(∀ x∈ps.map (·.2),C x=ρ x)->
  (ps.toList.map λq=>(q.1,C q.2))=(ps.toList.map λq=>(q.1,ρ q.2)):=λps hp=>
  map_congr_left λp hm=>by
   let⟨i,x⟩:=p;simp[hp x (Array.mem_map.2 ⟨(i,x),tn hm,rfl⟩)]
 have args:∀ xs:Array Operand,(∀ x∈xs,C x=ρ x)->xs.toList.map C=xs.toList.map ρ:=λxs hx=>
  map_congr_left λx hm=>hx x (tn hm)
 cases o with
 |call c=>
  simp[bh];cases hc:c.callee with
  |builtin b=>simp[args c.args λx hx=>h x (by simp[Op.operands,Call.operands,hc,hx])]
  |_=>rfl
 |build t ps=>simp[bh,O ps λx hx=>h x (by simpa[Op.operands] using hx)]
 |buildSlice t n ps=>simp[bh,O ps λx hx=>h x (by simpa[Op.operands] using hx)]
 |makeFunc f fs cs=>simp[bh,args fs λx hx=>h x (by simp[Op.operands,hx]),args cs λx hx=>h x (by simp[Op.operands,hx])]
 |slice t x lo hi J=>
  have U:lo.map C=lo.map ρ:=by cases lo<;>simp_all[Op.operands]
  have e2:hi.map C=hi.map ρ:=by cases hi<;>simp_all[Op.operands]
  have e3:J.map C=J.map ρ:=by cases J<;>simp_all[Op.operands]
  simp[bh,U,e2,e3,h x ct]
 |makeMap t r=>cases r<;>simp_all[bh,Op.operands]
 |_=>first|rfl|(simp[Op.operands] at h;simp[bh];simp_all)
def Dr{C:Operand->D}(h:∀ x∈o.operands,C x=ρ x):eB C o=eB ρ o:=by
 cases o with
 |call c=>
  simp[eB];cases hc:c.callee with
  |value f=>
   have J:c.args.toList.map C=c.args.toList.map ρ:=map_congr_left λx hm=>h x (by simp[Op.operands,Call.operands,hc];exact .inr (tn hm));have e2:C f=ρ f:=h f (by simp[Op.operands,Call.operands,hc]);simp[J,e2]
  |_=>rfl
 |_=>rfl
def Wo{env env':Env}{x:Operand}(h:∀ t,x=.tmp t->env' t=env t):opd env' x=opd env x:=by
 cases x<;>simp_all[opd]
def zG{env env':Env}(h:∀ t,Operand.tmp t∈o.operands->env' t=env t):∀ x∈o.operands,bS env' o x=bS env o x:=λx hx=>by
 have:=Wo (env:=env) (env':=env') (x:=x) λt ht=>h t (ht▸hx);unfold bS;cases o<;>simp[this]
def Bi{env env':Env}(h:∀ t,Operand.tmp t∈o.operands->env' t=env t):asks env' o=asks env o:=by
 have hh:∀ x∈o.operands,opd env' x=opd env x:=λx hx=>Wo λt ht=>h t (ht▸hx)
 have hl:(∀ x∈o.operands.toList,(opd env' x).ask)=(∀ x∈o.operands.toList,(opd env x).ask):=by
  apply propext;constructor
  .intro hq x hx;rw[<- hh x (tn hx)];exact hq x hx
  .intro hq x hx;rw[hh x (tn hx)];exact hq x hx
 unfold asks;split
 .rw[hh _ ct]
 .exact hl
def Tq{sz:Nat}{d:D}{p:Prop}{rd:List Nat}{n:Nat}{cs:List D}(h:kq m sz d=some (p,rd,n,cs))(hr:∀ i∈rd,m' i=m i):kq m' sz d=some (p,rd,n,cs):=by
 unfold kq at*
 split at h
 .simpa using h
 .simpa using h
 .rename_i i off n';split at h
  .rename_i cs' e hm;simp only[aY,cO] at h;obtain⟨rfl,rfl,rfl,rfl⟩:=h;rw[hr i oS,hm]
  .cases h
 .cases h
def acW{x k:D}{ok:Bool}(h:pW P m t x k ok=some e)(hr:∀ i∈e.rd,m' i=m i):pW P m' t x k ok=some e:=by
 unfold pW at*
 split at h
 .split at h
  .rename_i hm;cases h;rw[hr _ oS,hm]
  .cases h
 .exact h
 .exact h
 .cases h
def TI{x k v:D}(h:pX P m t x k v=some e)(hr:∀ i∈e.rd,m' i=m i):pX P m' t x k v=some e:=by
 unfold pX at*
 split at h
 .split at h
  .rename_i hm;cases h;rw[hr _ oS,hm]
  .cases h
 .cases h
def acX{x k:D}(h:xH P m t x k=some e)(hr:∀ i∈e.rd,m' i=m i):xH P m' t x k=some e:=by
 unfold xH at*
 split at h
 .split at h
  .rename_i hm;cases h;rw[hr _ oS,hm]
  .cases h
 .cases h
def ahM{nx:Nat}(h:bh P o ρ m nx=some e)(hr:∀ i∈e.rd,m' i=m i):bh P o ρ m' nx=some e:=by
 cases o with
 |call c=>
  simp[bh] at h ⊢;split at h
  .rename_i b hb;split at h
   .rename_i U;rw[bi U];unfold fP at h ⊢;split at h
    .unfold nR at h ⊢;split at h<;>try exact h
     split at h
     .rename_i hm;cases h;rw[hr _ oS,hm]
     .cases h
    .split at h
     .unfold tc at h ⊢;simp only at h ⊢;split at h
      .cases h
      .rename_i hc;split at h
       .cases h;rw[Tq hc hr];simp_all
       .split at h
        .rename_i hm;cases h;rw[Tq hc λi hi=>hr i (by simp[hi])];rw[hr _ oS,hm];simp_all
        .cases h
       .cases h
     .cases h
    .exact h
    .split at h
     .rename_i hm;cases h;rw[hr _ oS,hm]
     .cases h
    .exact acX h hr
    .cases h
   .cases h
  .cases h
 |lookup t x k ok=>exact acW h hr
 |mapUpdate t x k v=>exact TI h hr
 |insert t x k v=>exact TI h hr
 |slice t x lo hi X=>
  simp[bh] at h ⊢;unfold nJ at h ⊢;split at h
  .exact h
  .split at h
   .rename_i hm;split at h
    .cases h;rw[hr _ oS,hm]
    .cases h
   .cases h
  .exact h
  .cases h
 |binOp op t x y _=>
  simp[bh] at h ⊢;split at h
  .rename_i O he;simp[aY] at h;subst h
   have:nd P m' op t (ρ x) y=some O:=by
    unfold nd at he ⊢;split at he
    .exact he
    .split at he
     .rename_i hm;cases he;rw[hr _ oS,hm]
     .cases he
    .split at he
     .rename_i hm;cases he;rw[hr _ oS,hm]
     .cases he
    .cases he
   rw[this]
  .rename_i he;by_cases J:∃ i off,ρ x=.rp i off
   .let⟨i,off,C⟩:=J;rw[C] at h;simp[rD] at h
   .have:nd P m' op t (ρ x) y=none:=by
     unfold nd at he ⊢;split at he
     .cases he
     .rename_i i off C;exact absurd ⟨_,_,C⟩ J
     .rename_i i off C;exact absurd ⟨_,_,C⟩ J
     .simp_all
    rw[this];exact h
 |_=>
  first
  |exact h
  |(simp[bh] at h ⊢
    repeat' split at h
    all_goals first
     |(cases h;done)
     |exact h
     |(cases h;simp_all;done)
     |(simp_all;done))
end
end
end Go.Abs
namespace Go.Abs
open List
open Go.ChangeShapes Go.WideShapes
section
inductive Sh
 |int (k:IntKind)
 |bool
 |str
 |sl (s:Sh)
 |unit
 |pair (a b:Sh)
def Sh.val:Sh->Type
 | .int _=>Int
 | .bool=>Bool
 | .str=>ByteArray
 | .sl s=>List s.val
 | .unit=>Unit
 | .pair a b=>a.val×b.val
def Sh.size:Sh->Nat
 | .unit=>0
 | .pair a b=>a.size+b.size
 |_=>1
def Sh.enc:(s:Sh)->s.val->List D
 | .int k,n=>[.s (.int k n)]
 | .bool,b=>[.s (.bool b)]
 | .str,b=>[.s (.string b)]
 | .sl s,l=>[.sl (flatMap s.enc l) (length l)]
 | .unit,_=>[]
 | .pair a b,x=>a.enc x.1++b.enc x.2
def Sh.vA:Sh->Bool
 | .int .u64=>false
 | .sl s=>s.vA
 | .pair a b=>a.vA&&b.vA
 |_=>true
def Sh.arg:(s:Sh)->s.val->D
 | .int k,n=>.s (.int k n)
 | .bool,b=>.s (.bool b)
 | .str,b=>.s (.string b)
 | .sl s,l=>.sl (flatMap s.enc l) (length l)
 | .unit,_=>.agg []
 | .pair a b,x=>.agg (a.enc x.1++b.enc x.2)
def Sh.ok:(s:Sh)->s.val->Prop
 | .int k,n=>(Lit.int k n).wf=true
 | .bool,_=>True
 | .str,b=>ByteArray.size b<=maxLen
 | .sl s,l=>∀ x:s.val,List.Mem x l->s.ok x
 | .unit,_=>True
 | .pair a b,x=>a.ok x.1/\b.ok x.2
def Sh.Gd:∀ (s:Sh) (x:s.val),(s.enc x).length=s.size
 | .int _,_ | .bool,_ | .str,_ | .sl _,_ | .unit,_=>rfl
 | .pair a b,x=>by simp[Sh.enc,Sh.size,Sh.Gd a,Sh.Gd b]
section
variable(P:Program)
def Ax(C:TypeId->Option Sh):Nat->List Field->Option Sh
 |_,[]=>some .unit
 |off,f::fs=>if f.offset=off then match C f.type,Ax C (off+P.cellsOf f.type) fs with
  |some a,some b=>some (.pair a b)
  |_,_=>none
  else none
def xu:Nat->TypeId->Option Sh
 |0,_=>none
 |n+1,t=>match P.underlying t with
  |some .bool=>if P.cellsOf t=1 then some .bool else none
  |some (.int k)=>if P.cellsOf t=1 then some (.int k) else none
  |some .string=>if P.cellsOf t=1 then some .str else none
  |some (.slice e)=>if P.cellsOf t=1/\0<P.cellsOf e then(xu n e).map .sl else none
  |some (.struct fs)=>match Ax P (xu n) 0 fs.toList with
   |some s=>if s.size=P.cellsOf t then some s else none
   |none=>none
  |_=>none
end
variable{cs:List Value}{C:TypeId->Option Sh}{off:Nat}{s:Sh}{n:Nat}{α:Type}
section
variable{P:Program}{H:Type}{ec:TypeId×Value->H}{w:World}{base:Nat}{spare:Nat->Bool}{held:Bool}{F:Nat->Prop}
def Holds(F:Nat->Prop)(w:World)(ds:List D)(cs:List Value):Prop:=ds.length=cs.length/\∀ (k:Nat) (d:D) (u:Value),ds[k]? =some d->cs[k]? =some u->R F iE w d u/\u.oneCell'=true
def Holds.app{ds C:List D}{cs':List Value}(h:Holds F w ds cs)(h':Holds F w C cs'):Holds F w (ds++C) (cs++cs'):=by
 refine⟨by simp[h.1,h'.1],λk d u hd hu=>?_⟩;by_cases hk:k<ds.length
 .rw[getElem?_append_left hk] at hd;rw[getElem?_append_left (by have:=h.1;omega)] at hu;exact h.2 k d u hd hu
 .rw[getElem?_append_right oG] at hd;rw[getElem?_append_right (by have:=h.1;omega), <- h.1] at hu;exact h'.2 (k - ds.length) d u hd hu
def Holds.one{d:D}{u:Value}(h:R F iE w d u)(h':u.oneCell'=true):Holds F w [d] [u]:=⟨rfl,λk d' C hd hu=>by
 cases k with
 |zero=>simp at hd hu;subst hd hu;exact⟨h,h'⟩
 |succ k=>simp at hd⟩
def Holds.nil:Holds F w [] []:=⟨rfl,oS⟩
def Wc(h:Ax P C off []=some s):s=.unit:=by
 simp[Ax,aY] at h;exact h.symm
def Vj{f:Field}{fs:List Field}(h:Ax P C off (f::fs)=some s):
 f.offset=off/\∃ a b,C f.type=some a/\Ax P C (off+P.cellsOf f.type) fs=some b/\s=.pair a b:=by
 simp only[Ax] at h;split at h
 .rename_i J;split at h
  .rename_i a b ha hb;simp only[aY] at h;exact⟨J,a,b,ha,hb,h.symm⟩
  .cases h
 .cases h
def JF:∀ (n:Nat) (t:TypeId) (s:Sh),xu P n t=some s->s.size=P.cellsOf t
 |0,_,_,h=>by cases h
 |n+1,t,s,h=>by
  unfold xu at h;split at h
  .split at h
   .rename_i h1;simp[aY] at h;subst h;exact h1.symm
   .cases h
  .split at h
   .rename_i h1;simp[aY] at h;subst h;exact h1.symm
   .cases h
  .split at h
   .rename_i h1;simp[aY] at h;subst h;exact h1.symm
   .cases h
  .split at h
   .rename_i h1;simp[eg] at h;obtain⟨a,_,rfl⟩:=h;exact h1.1.symm
   .cases h
  .split at h
   .split at h
    .rename_i h1;simp[aY] at h;subst h;exact h1
    .cases h
   .cases h
  .cases h
def Reads(P:Program)(F:Nat->Prop)(w:World)(C:TypeId->Option Sh)(rd:TypeId->List Value->Option (DataW H×List MemPlace)):Prop:=
 ∀ t s cs x,C t=some s->s.vA=true->cs.length=P.cellsOf t->rd t cs=some x->∃ v:s.val,s.ok v/\Holds F w (s.enc v) cs
def PO:∀ (s:Sh) (x:s.val),s.vA=true->∀ d∈s.enc x,∀ n:Int,¬ R F iE w d (.int .u64 n)
 | .int k,x,h,d,hd,n,hr=>by
  simp[Sh.enc,mem_singleton] at hd;subst hd;cases hr;cases h
 | .bool,x,h,d,hd,n,hr=>by
  simp[Sh.enc,mem_singleton] at hd;subst hd;cases hr
 | .str,x,h,d,hd,n,hr=>by
  simp[Sh.enc,mem_singleton] at hd;subst hd;cases hr
 | .sl s,x,h,d,hd,n,hr=>by
  simp[Sh.enc,mem_singleton] at hd;generalize flatMap s.enc x=es at hd;generalize length x=k at hd;subst hd;cases hr
 | .unit,x,h,d,hd,n,hr=>by simp[Sh.enc] at hd
 | .pair a b,x,h,d,hd,n,hr=>by
  simp[Sh.vA,aH] at h;simp[Sh.enc,mem_append] at hd;rcases hd with hd|hd
  .exact PO a x.1 h.1 d hd n hr
  .exact PO b x.2 h.2 d hd n hr
def Hs(F:Nat->Prop)(w:World):Prop:=∀ b o u,F b->w.cell? ⟨b,o,none⟩=some u->∃ n,u=.int .u64 n
def Wd{J:TypeId->Option Sh}{rd:TypeId->List Value->Option (DataW H×List MemPlace)}(hz:∀ t s,J t=some s->s.size=P.cellsOf t)(h:Reads P F w J rd){cs:List Value}:∀ (fs:List Field) (off:Nat) (s:Sh),Ax P J off fs=some s->s.vA=true->off+s.size<=cs.length->
 (∀ f∈fs,∃ x,rd f.type ((cs.drop f.offset).take (P.cellsOf f.type))=some x)->∃ v:s.val,s.ok v/\Holds F w (s.enc v) ((cs.drop off).take s.size)
 |[],off,s,hs,_,_,_=>by
  obtain rfl:=Wc hs;exact⟨(),aa,by simp[Sh.enc,Sh.size,Holds]⟩
 |f::fs,off,s,hs,hn,hl,hr=>by
  obtain⟨ql,a,b,ha,hb,rfl⟩:=Vj hs;simp[Sh.vA,aH] at hn;let⟨x,hx⟩:=hr f oS;have mb:off+(a.size+b.size)<=cs.length:=hl;have bZ:=hz _ _ ha;rw[ql] at hx;let⟨v,X,hv⟩:=h f.type a _ x ha hn.1 (by simp[length_take,length_drop];omega) hx;rw[<- bZ] at hb hv;let⟨O,C,U⟩:=Wd hz h fs (off+a.size) b hb hn.2 oG λg hg=>hr g (by simp[hg]);refine⟨(v,O),⟨X,C⟩,?_⟩;have:=hv.app U;show Holds F w (a.enc v++b.enc O) ((cs.drop off).take (a.size+b.size));rw[take_add,drop_drop];exact this
def N1{a:Addr}(h:w.cells? base a n=some cs):cs.length=n/\∀ k,k<n->w.cell? (a.add k)=cs[k]? /\k<cs.length:=by
 unfold World.cells? at h;split at h
 .have hl:cs.length=n:=tn (mapM_some_length h)
  exact⟨hl,λk hk=>⟨mapM_some_get h k k (by simp[hk]),oG⟩⟩
 .cases h
def TV{β:Type}{p:Nat->α->β->Prop}:∀ (n:Nat) (l:Nat->α),(∀ i,i<n->∃ y,p i (l i) y)->∃ ys:List β,ys.length=n/\∀ i (h:i<n) y,ys[i]? =some y->p i (l i) y
 |0,_,_=>⟨[],rfl,λi h=>by omega⟩
 |n+1,l,h=>by
  let⟨ys,h1,h2⟩:=TV n l λi hi=>h i oG;let⟨y,hy⟩:=h n oG;refine⟨ys++[y],by simp[h1],λi hi z hz=>?_⟩;by_cases C:i<n
  .rw[getElem?_append_left oG] at hz;exact h2 i C z hz
  .have:i=n:=by omega
   subst this;rw[getElem?_append_right oG] at hz;simp[h1] at hz;subst hz;exact hy
def Oz{f:α->List D}{sz:Nat}(hs:∀ x,(f x).length=sz):∀ (l:List α) (i j:Nat),j<sz->(l.flatMap f)[i*sz+j]? =(l[i]?).bind λx=>(f x)[j]?
 |[],i,j,_=>by simp
 |x::l,0,j,h=>by simp[getElem?_append_left (show j<(f x).length by rw[hs];exact h)]
 |x::l,i+1,j,h=>by
  rw[flatMap_cons,getElem?_append_right (by rw[hs,Nat.add_mul];omega)];have:(i+1)*sz+j - (f x).length=i*sz+j:=by rw[hs,Nat.add_mul];omega
  rw[this,Oz hs l i j h];simp
def O8(hF:Hs F w):∀ (fu n:Nat),Reads P F w (xu P n) (DataW.trod ec P w base spare held fu)
 |fu,0,t,s,cs,x,h,_,_,_=>by cases h
 |fu,n+1,t,s,cs,x,h,vB,hl,hr=>by
  have bZ:=JF _ _ _ h;unfold xu at h;split at h
  .rename_i ht;split at h
   .simp[aY] at h;subst h;obtain⟨b,rfl,_⟩:=DataW.trod_bool ht hr;exact⟨b,aa,.one (.s _ rfl) rfl⟩
   .cases h
  .rename_i k ht;split at h
   .simp[aY] at h;subst h;obtain⟨b,rfl,_,hw⟩:=DataW.trod_int ht hr;exact⟨b,hw,.one (.s _ rfl) rfl⟩
   .cases h
  .rename_i ht;split at h
   .simp[aY] at h;subst h;obtain⟨b,rfl,_,hw⟩:=DataW.trod_string ht hr;exact⟨b,hw,.one (.s _ rfl) rfl⟩
   .cases h
  .rename_i e ht;split at h
   .rename_i hc;simp[eg] at h;obtain⟨a,ha,rfl⟩:=h;have haz:=JF _ _ _ ha;rcases DataW.trod_slice ht hr with⟨rfl,_⟩|⟨ad,len,cap,ZH,rest,U,rfl,rfl,_,hb,hlc,hm,hlen,IH,_,_⟩
    .exact⟨([]:List a.val),(λx h=>nomatch h),.one (by exact .kf none 0) rfl⟩
    .have O:∀ i,i<len->∃ C:List Value,w.cells? base (ad.add (i*P.cellsOf e)) (P.cellsOf e)=some C/\∃ y,DataW.trod ec P w base spare held U e C=some y:=λi hi=>by
      have:=IH i hi;have hg:ZH[i]? =some ZH[i]:=by simp[hlen,hi]
      rw[hg,Option.bind_eq_some_iff] at this;let⟨C,h1,h2⟩:=this;exact⟨C,h1,_,h2⟩
     have H0:∀ i,i<len->∃ v:a.val,a.ok v/\∃ C,w.cells? base (ad.add (i*P.cellsOf e)) (P.cellsOf e)=some C/\Holds F w (a.enc v) C:=λi hi=>by
      let⟨C,h1,y,h2⟩:=O i hi;let⟨v,IZ,hv⟩:=O8 hF U n e a C y ha vB (N1 h1).1 h2;exact⟨v,IZ,C,h1,hv⟩
     let⟨vs,tL,Mo⟩:=TV (p:=λ(i:Nat) (_:Nat) (v:a.val)=>a.ok v/\∃ C,w.cells? base (ad.add (i*P.cellsOf e)) (P.cellsOf e)=some C/\Holds F w (a.enc v) C) len (λi=>i) H0
     have aqu:∀ x:a.val,x∈vs->a.ok x:=λx hm=>by
      let⟨i,hx⟩:=dW hm;exact(Mo i (by have:=(bO.1 hx).1;omega) x hx).1
     cases len with
     |zero=>
      have:vs=[]:=length_eq_zero_iff.1 tL;subst this;exact⟨([]:List a.val),(λx h=>nomatch h),.one (by exact .kf _ cap) rfl⟩
     |succ l=>
      let⟨C,h0,_⟩:=O 0 oG;have CB:=(N1 h0).2 0 hc.2;simp[Nat.zero_mul,Addr.add,if_true] at CB;let⟨b,o,sp⟩:=ad;have KZ:∃ u,w.cell? ⟨b,o,sp⟩=some u:=⟨C[0],by rw[CB.1];simp[CB.2]⟩
      let⟨u0,J⟩:=KZ;unfold World.cell? at J
      have mg:b<w.heap.size:=by
       cases hh:w.heap[b]? with
       |none=>rw[hh] at J;cases J
       |some x=>exact(Array.getElem?_eq_some_iff.1 hh).1
      have lP:sp=none:=by
       cases sp with
       |none=>rfl
       |some q=>
        simp only at J;split at J
        .simp at J
        .cases J
      subst lP
      have aqv:∀ i j,((⟨b,o,none⟩:Addr).add i).add j=⟨b,o+(i+j),none⟩:=λi j=>by
       unfold Addr.add;split<;>split<;>simp_all;omega
      have hk:∀ k d,(vs.flatMap a.enc)[k]? =some d->∃ u,w.cell? ⟨b,o+k,none⟩=some u/\R F iE w d u/\u.oneCell'=true:=λk d hd=>by
       have X:0<a.size:=by omega
       have yU:k / a.size*a.size+k % a.size=k:=by rw[Nat.mul_comm];exact Nat.div_add_mod k a.size
       have Fv:=Nat.mod_lt k X;rw[<- yU,Oz a.Gd _ _ _ Fv,Option.bind_eq_some_iff] at hd;let⟨x,hx,hd⟩:=hd
       have hi:k / a.size<l+1:=by
        have:=(bO.1 hx).1;omega
       let⟨_,C,hci,hho⟩:=Mo _ hi x hx;let⟨h1,h2⟩:=(N1 hci).2 (k % a.size) oG;rw[aqv, <- haz,yU] at h1;refine⟨C[k % a.size],by rw[h1];simp[h2],hho.2 _ d _ hd (by simp[h2])⟩
      have yZ:¬ F b:=λhb=>by
       let⟨x0,FI⟩:=tS vs 0 (show 0<vs.length by omega)
       have X:0<a.size:=by omega
       obtain⟨d0,lO⟩:∃ d0,(vs.flatMap a.enc)[0]? =some d0:=by
        have:=Oz a.Gd vs 0 0 X;rw[Nat.zero_mul,Nat.zero_add,FI] at this;rw[this];exact⟨_,aV (by rw[a.Gd];exact X)⟩
       let⟨u,h1,h2,_⟩:=hk 0 d0 lO;obtain⟨q,rfl⟩:=hF _ _ _ hb h1;let⟨x1,IV,di⟩:=mem_flatMap.1 (cL lO);exact PO a x1 vB d0 di q h2
      refine⟨vs,λx h=>aqu x h,.one (by
       have vd:(length vs)=l+1:=tL;show R _ _ _ (.sl (flatMap a.enc vs) (length vs)) _;rw[vd];refine .sl _ _ b o cap (λk=>(w.cell? ⟨b,o+k,none⟩).getD undef) yZ (λ_ _ h=>by cases h) mg hlc hm (λk lM=>?_) λk d hd=>?_
       .let⟨u,h1,_,h3⟩:=hk k _ (aV lM);simp[h1,h3]
       .let⟨u,h1,h2,_⟩:=hk k d hd
        simpa[h1] using h2) rfl⟩
   .cases h
  .rename_i fs ht;obtain⟨xs,U,rfl,_,_,Fa,tN⟩:=DataW.trod_struct ht hr;split at h
   .rename_i s' fG;split at h
    .rename_i hs;simp[aY] at h;subst h
     let⟨v,IZ,hv⟩:=Wd (P:=P) (w:=w) (λt s=>JF n t s) (O8 hF U n) (cs:=cs) fs.toList 0 s' fG vB oG λf hf=>by
      obtain⟨i,hi,rfl⟩:=Array.getElem_of_mem (Array.mem_toList_iff.1 hf);have:=tN i fs[i] (by simp[hi]);exact⟨xs[i],by rw[this];simp[Fa,hi]⟩
     refine⟨v,IZ,?_⟩;rw[drop_zero,cW oG] at hv;exact hv
    .cases h
   .cases h
  .cases h
def anu(hF:Hs F w){r:Reach}{b0:Nat}{t:TypeId}{v:Value}{d:DataW H}{ps:List MemPlace}(hs:xu P n t=some s)(vB:s.vA=true)(hv:Value.okWide P w r b0 t v)(hd:DataW.Trod ec P w base spare held t v d ps):
 ∃ x:s.val,s.ok x/\R F iE w (s.arg x) v:=by
 cases n with
 |zero=>cases hs
 |succ n=>
  let⟨fu,hf⟩:=hd;have hz:=JF _ _ _ hs;have key:v.cells.toList.length=P.cellsOf t->∃ x:s.val,s.ok x/\Holds F w (s.enc x) v.cells.toList:=λhl=>O8 hF fu (n+1) t s _ _ hs vB hl hf;unfold xu at hs;split at hs
  .rename_i ht;obtain⟨b,rfl⟩:=okWide_bool ht hv;split at hs
   .simp[aY] at hs;subst hs;exact⟨b,aa,.s _ rfl⟩
   .cases hs
  .rename_i k ht;obtain⟨b,rfl⟩:=okWide_int ht hv;split at hs
   .simp[aY] at hs;subst hs;let⟨c,hc,_,J⟩:=DataW.trod_int ht hf;simp[Value.cells] at hc;subst hc;exact⟨b,J,.s _ rfl⟩
   .cases hs
  .rename_i ht;obtain⟨b,rfl⟩:=okWide_string ht hv;split at hs
   .simp[aY] at hs;subst hs;let⟨c,hc,_,J⟩:=DataW.trod_string ht hf;simp[Value.cells] at hc;subst hc;exact⟨b,J,.s _ rfl⟩
   .cases hs
  .rename_i e ht;obtain⟨a,len,cap,rfl⟩:=okWide_slice ht hv;split at hs
   .rename_i h1;simp[eg] at hs;obtain⟨q,_,rfl⟩:=hs;let⟨x,O,hx⟩:=key h1.1.symm;exact⟨x,O,(hx.2 0 _ _ rfl rfl).1⟩
   .cases hs
  .rename_i fs ht;obtain⟨cs,rfl,bZ⟩:=okWide_struct ht hv;let⟨x,O,hx⟩:=key (by simpa[Value.cells] using bZ);refine⟨x,O,?_⟩
   have ha:s.arg x=.agg (s.enc x):=by
    split at hs
    .rename_i s' C;split at hs
     .simp[aY] at hs;subst hs;cases U:fs.toList with
      |nil=>
       rw[U] at C;obtain rfl:=Wc C;rfl
      |cons f X=>
       rw[U] at C;obtain⟨_,a,b,_,_,rfl⟩:=Vj C;rfl
     .cases hs
    .cases hs
   rw[ha];have:=hx.1;simp[Value.cells] at this hx;have e:cs=cs.toList.toArray:=by simp
   rw[e];exact .agg _ cs.toList this.symm λk d v h1 h2=>(hx.2 k d v h1 h2).1
  .cases hs
def OA{β:Type}(f:α->β):∀ l:List α,(l.flatMap λx=>[f x])=l.map f
 |[]=>rfl
 |x::l=>by rw[flatMap_cons,OA f l];rfl
def Ga{β γ:Type}{f:α->List γ}{g:β->List γ}{h:α->β}(he:∀ x,f x=g (h x)):∀ l:List α,l.flatMap f=(l.map h).flatMap g
 |[]=>rfl
 |x::l=>by rw[flatMap_cons,map_cons,flatMap_cons,he,Ga he l]
end
end
end Go.Abs
namespace Go.Abs
open List
section
abbrev Fe(r:Option Nat):Fence:={ fn:=λ_=>True,depth:=none,alive:=false,round:=r }
variable{r:Option Nat}{n:Nat}{w:World}
def Jw{P:Program}{f:FuncId}{args:Array Value}{R:Ending->World->Prop}(h:Calls P f args w R):CallsIn (Fe r) n P f args w R:=
 (callsIn_wide.2 h:CallsIn Fence.wide n P f args w R)
def ju(r:Option Nat)(n:Nat)(P:Program)(ops:Array Oper)(QX:Exit->Act->World->Prop)(o:Oper)(K:Act->World->Prop)(a:Act)(w:World):Prop:=
 if Region.wanted o (yielded ops a.tmps) then o.wpIn (Fe r) n P a w K QX else(∀ f,o.about P w a.eval=some f->(Fe r).fn f)/\K (a.put o.dst undef) w
variable{o:Oper}{a:Act}
section
variable{P:Program}{ops:Array Oper}
def Dg{QX:Exit->Act->World->Prop}{i:Nat}(hi:ops[i]? =some o){K:Act->World->Prop}(h:ju r n P ops QX o K a w):
 wpOpIn (Fe r) n P ops QX i K a w:=by
 unfold wpOpIn;simp only[hi];exact h
structure bI where
 val:D
 bn:List (Nat×Option Row):=[]
 rd:List Nat:=[]
 new:Nat:=0
def bI.wr(p:bI):List Nat:=p.bn.map (·.1)
def bI.Ok(P:Program)(ops:Array Oper)(o:Oper)(st:St)(p:bI):Prop:=
 ∀ (F:Nat->Prop) (β:aN) (w:World) (a:Act) (m:Mem) (env:Env) (N:Nat),(∀ t∈o.looksAt ops,env t=st.env t)->gq F β w env a->aQ P F m β w->
  (∀ i∈p.rd,st.mem i≠none->m i=st.mem i)->(∀ i,st.nx<=i->i<st.nx+p.new->β i=none)->(∀ i,N<=i->β i=none)->
  ∀ (r:Option Nat) (n:Nat) (QX:Exit->Act->World->Prop) (K:Act->World->Prop),
   (∀ v w' β',R F β' w' p.val v->aQ P F (cT m p.bn) β' w'->Step β w β' w'->(∀ i,β i=none->(i<st.nx\/st.nx+p.new<=i)->β' i=none)->K (a.put o.dst v) w')->
   ju r n P ops QX o K a w
structure bI.pE(p:bI)(k:Nat)(st:St):Prop where
 wr:∀ i∈p.wr,st.mem i≠none\/(st.nx<=i/\i<st.nx+p.new)
 k0:k=0->p.rd=[]/\p.bn=[]
 k1:k=1->p.bn=[]
 k3:k=3->p.rd=[]/\∀ i∈p.wr,st.nx<=i
def BC(h:∀ c,o.op≠ .defer c)(ρ:Operand->Value):o.semAt r ρ=execOp ρ o:=Oper.semAt_eq r ρ o h
def ahV{F:Nat->Prop}{β:aN}{env:Env}(U:gq F β w env a){j t:Nat}{b c:Bool}(ht:(ops[j]?).bind (·.dst)=some t)(hc:mA (env t) b=some c):
 (yielded ops a.tmps j==some b)=c:=by
 have h:=U t
 have hy:yielded ops a.tmps j=match a.tmps[t]? with|some (.bool b)=>some b|_=>none:=by
  rw[yielded,ht];rfl
 have hq:∀ x:Value,a.tmps.getD t undef=x->x≠undef->a.tmps[t]? =some x:=λx hx J=>by
  simp[Array.getD_eq_getD_getElem?] at hx;cases hg:a.tmps[t]? with
  |none=>rw[hg] at hx;exact absurd hx.symm J
  |some y=>rw[hg] at hx;simpa using hx
 have hf:∀ {d:D},R F β w (.dq false d) (a.tmps.getD t undef)->c=false->(yielded ops a.tmps j==some b)=c:=λ{d} h C=>by
  generalize hv:a.tmps.getD t undef=v at h;cases h with
  |dq _ _ _ h1 h2=>
   have:=h2 rfl;rw[hy,C];simp[Array.getD_eq_getD_getElem?] at hv;cases hg:a.tmps[t]? with
   |none=>simp
   |some y=>
    rw[hg] at hv;simp[Option.getD_some] at hv;rw[hv,this];simp[undef]
 unfold mA at hc;split at hc
 .rename_i g X e;rw[e] at h;have:=h.cX.1;rw[hy,hq _ this (by simp[undef])];simpa using hc
 .rename_i _ O d e;rw[e] at h;cases O with
  |false=>
   apply hf h;split at hc<;>simpa using hc.symm
  |true=>
   split at hc
   .generalize hv:a.tmps.getD t undef=v at h;cases h with
    |dq _ _ _ h1 h2=>
     have:=(h1 rfl).cX.1;rw[hy,hq _ (hv.trans this) (by simp[undef])];simpa using hc
   .simp at hc
 .cases hc
end
end
section
variable{m:Mem}{d:D}{rd:List Nat}{t:TypeId}{e:ez}{op:Op}{ρ:Operand->D}{nx:Nat}{env:Env}{F:Nat->Prop}{β:aN}{f:FuncId}{args:List D}{bP:List Nat}{bn:List (Nat×Option Row)}{i:Nat}
section
variable{P:Program}{ops:Array Oper}{o:Oper}{st:St}
def acH{sz:Nat}{p:Prop}{n:Nat}{cs:List D}(h:kq m sz d=some (p,rd,n,cs)):∀ i∈rd,m i≠none:=by
 unfold kq at h;split at h
 .cases h;simp
 .cases h;simp
 .split at h
  .rename_i hm;cases h;simp[hm]
  .cases h
 .cases h
def Tz{x k:D}{ok:Bool}(h:pW P m t x k ok=some e):e.bn=[]/\e.new=0/\∀ i∈e.rd,m i≠none:=by
 unfold pW at h;split at h
 .split at h
  .rename_i hm;cases h;simp[hm]
  .cases h
 .cases h;simp
 .cases h;simp
 .cases h
def I2{x k v:D}(h:pX P m t x k v=some e):(∀ i∈e.bn.map (·.1),m i≠none)/\∀ i∈e.rd,m i≠none:=by
 unfold pX at h;split at h
 .split at h
  .rename_i hm;cases h;simp[hm]
  .cases h
 .cases h
def TA{x k:D}(h:xH P m t x k=some e):(∀ i∈e.bn.map (·.1),m i≠none)/\∀ i∈e.rd,m i≠none:=by
 unfold xH at h;split at h
 .split at h
  .rename_i hm;cases h;simp[hm]
  .cases h
 .cases h
def Oa(h:bh P op ρ m nx=some e):
 (∀ i∈e.bn.map (·.1),m i≠none\/(nx<=i/\i<nx+e.new))/\(de op=0->e.rd=[]/\e.bn=[])/\(de op=1->e.bn=[])/\(de op=3->e.rd=[]/\∀ i∈e.bn.map (·.1),nx<=i):=by
 cases op with
 |call c=>
  have h0:(∀ i∈e.bn.map (·.1),m i≠none\/(nx<=i/\i<nx+e.new))/\(c.callee=.builtin .len->e.bn=[])/\(c.callee=.builtin .min->e.rd=[]/\e.bn=[]):=by
   simp only[bh] at h;split at h
   .rename_i b hb;split at h
    .unfold fP at h;split at h
     .refine⟨?_,λ_=>?_,λhx=>(by rw[hx] at hb;cases hb)⟩<;>
      .unfold nR at h;split at h<;>first|(cases h;simp;done)|skip
       all_goals first|(cases h;done)|skip
       all_goals (split at h<;>first|(cases h;simp;done)|(cases h;done))
     .refine⟨?_,λhx=>(by rw[hx] at hb;cases hb),λhx=>(by rw[hx] at hb;cases hb)⟩;split at h
      .unfold tc at h;simp only at h;split at h
       .cases h
       .rename_i hc;split at h
        .cases h;simp
        .split at h
         .rename_i hm;cases h;intro i hi;simp only[map_cons,map_nil,mem_cons,not_mem_nil,or_false] at hi;rcases hi with rfl|rfl
          .left;simp[hm]
          .right;simp
         .cases h
        .cases h
      .cases h
     .cases h;refine⟨oS,λ_=>rfl,λ_=>⟨rfl,rfl⟩⟩
     .refine⟨?_,λhx=>(by rw[hx] at hb;cases hb),λhx=>(by rw[hx] at hb;cases hb)⟩;split at h
      .rename_i hm;cases h;simp[hm]
      .cases h
     .exact⟨λi hi=>.inl ((TA h).1 i hi),λhx=>(by rw[hx] at hb;cases hb),λhx=>(by rw[hx] at hb;cases hb)⟩
     .cases h
    .cases h
   .cases h
  refine⟨h0.1,λhk=>?_,λhk=>?_,λhk=>?_⟩
  .unfold de at hk;split at hk<;>first|(cases hk;done)|skip
   all_goals first|(rename_i hx;injection hx with hx;subst hx;exact h0.2.2 rfl)|(simp_all;done)
  .unfold de at hk;split at hk<;>first|(cases hk;done)|skip
   all_goals first|(rename_i hx;injection hx with hx;subst hx;exact h0.2.1 rfl)|(simp_all;done)
  .unfold de at hk;split at hk<;>first|(cases hk;done)|skip
   all_goals simp_all
 |binOp op t x y _=>
  simp only[bh] at h;split at h
  .rename_i C he;simp only[aY] at h;subst h
   have h0:C.bn=[]/\(op=.eql\/op=.neq):=by
    unfold nd at he;split at he
    .cases he;exact⟨rfl,.inl rfl⟩
    .split at he
     .cases he;exact⟨rfl,.inl rfl⟩
     .cases he
    .split at he
     .cases he;exact⟨rfl,.inr rfl⟩
     .cases he
    .cases he
   refine⟨by simp[h0.1],λhk=>?_,λ_=>h0.1,λhk=>?_⟩
   .rcases h0.2 with rfl|rfl<;>simp[de] at hk
   .rcases h0.2 with rfl|rfl<;>simp[de] at hk
  .cases hb:rD P op t (ρ x) (ρ y) with
   |none=>rw[hb] at h;cases h
   |some r=>rw[hb] at h;cases h;simp
 |lookup t x k ok=>
  have:=Tz h;refine⟨by simp[this.1],λhk=>?_,λ_=>this.1,λhk=>?_⟩<;>simp[de] at hk
 |mapUpdate t x k v=>
  refine⟨λi hi=>.inl ((I2 h).1 i hi),λhk=>?_,λhk=>?_,λhk=>?_⟩<;>simp[de] at hk
 |insert t x k v=>
  refine⟨λi hi=>.inl ((I2 h).1 i hi),λhk=>?_,λhk=>?_,λhk=>?_⟩<;>simp[de] at hk
 |slice t x lo hi J=>
  have h0:e.bn=[]:=by
   simp only[bh] at h;unfold nJ at h
   repeat' split at h
   all_goals first|(cases h;done)|(cases h;rfl)
  refine⟨by simp[h0],λhk=>?_,λ_=>h0,λhk=>?_⟩<;>simp[de] at hk
 |_=>
  first
  |(simp only[bh] at h;cases h;simp[de];done)
  |(simp only[bh] at h
    repeat' split at h
    all_goals first
     |(cases h;done)
     |(cases h;simp_all[de];done)
     |(simp only[eg] at h;obtain⟨x,hx,rfl⟩:=h;simp[de];done))
def gY(ops:Array Oper)(o:Oper)(st:St)(c:Bool):Prop:=
 ∀ (F:Nat->Prop) (β:aN) (w:World) (a:Act) (env:Env),(∀ t∈o.looksAt ops,env t=st.env t)->gq F β w env a->Region.wanted o (yielded ops a.tmps)=c
def Bc(h:o.guard=none):gY ops o st true:=λ_ _ _ _ _ _ _=>by simp[Region.wanted,h]
def Nl{j t:Nat}{b c:Bool}(h:o.guard=some (j,b))(ht:(ops[j]?).bind (·.dst)=some t)(hc:mA (st.env t) b=some c):gY ops o st c:=λF β w a env he C=>by
 have:=he t (by simp[Oper.looksAt,h,ht]);rw[<- this] at hc;have h1:=ahV C ht hc;simpa[Region.wanted,h] using h1
def zu(he:∀ t∈o.looksAt ops,env t=st.env t):∀ t,Operand.tmp t∈o.op.operands->env t=st.env t:=λt ht=>
 he t (mem_append_left _ (mem_filterMap.2 ⟨.tmp t,tn ht,rfl⟩))
def JO(O:gY ops o st false)(d:D)(hd:∀ F β w,R F β w d undef):bI.Ok P ops o st ⟨d,[],[],0⟩:=by
 intro F β w a m env N he C hm hr hn U r n QX K J;rw[ju,O F β w a env he C,ai oS];exact⟨λ_ _=>trivial,J undef w β (hd F β w) hm (Step.refl β w) λ_ h _=>h⟩
def Xz{c:Bool}(U:gY ops o st c)(h:c=true->bI.Ok P ops o st ⟨d,[],rd,0⟩):bI.Ok P ops o st ⟨.dq c d,[],rd,0⟩:=by
 intro F β w a m env N he C hm hr hn O r n QX K J;cases c with
 |true=>exact h rfl F β w a m env N he C hm hr hn O r n QX K λv w' β' h1=>J v w' β' (.dq true d v (λ_=>h1) oS)
 |false=>
  have:=JO (P:=P) U (.dq false d) λF β w=>.dq false d undef oS λ_=>rfl;exact this F β w a m env N he C hm oS hn O r n QX K J
def Wt{F:Nat->Prop}{m:Mem}{nx:Nat}{β:aN}{w:World}{a:Act}(eY:∀ c,o.op≠ .defer c)(hw:Region.wanted o (yielded ops a.tmps)=true)(h:a7 P F m nx β w e (execOp a.eval o))
 {r:Option Nat} {n:Nat} {QX:Exit->Act->World->Prop} {K:Act->World->Prop}
 (X:∀ v w' β',R F β' w' e.val v->aQ P F (cT m e.bn) β' w'->Step β w β' w'->(∀ i,β i=none->(i<nx\/nx+e.new<=i)->β' i=none)->K (a.put o.dst v) w'):
 ju r n P ops QX o K a w:=by
 let⟨yS,v,w',β',h1,h2,C,J,O,U⟩:=h;rw[ju,hw,bi rfl];refine⟨λ_ _=>trivial,?_⟩;rw[BC eY,h1];rcases h2 with rfl|⟨rfl,rfl⟩
 .exact X v w' β' C J O U
 .exact X undef w' β' C J O U
def aeu(h:bh P op ρ m nx=some e):∀ c,op≠ .defer c:=λc hc=>by
 subst hc;simp[bh] at h
def TN{x:FuncId×List D}(h:eB ρ op=some x):∀ c,op≠ .defer c:=λc hc=>by
 subst hc;simp[eB] at h
def ai4(h:bh P op ρ m nx=some e):∀ i∈e.rd,m i≠none:=by
 cases op with
 |call c=>
  simp only[bh] at h;split at h
  .split at h
   .unfold fP at h;split at h
    .unfold nR at h;split at h<;>first|(cases h;simp;done)|skip
     all_goals first|(cases h;done)|skip
     all_goals (split at h<;>first|(rename_i hm;cases h;simp[hm];done)|(cases h;done))
    .split at h
     .unfold tc at h;simp only at h;split at h
      .cases h
      .rename_i hc;have h1:=acH hc;split at h
       .cases h;exact h1
       .split at h
        .rename_i hm;cases h;intro i hi;simp only[mem_cons] at hi;rcases hi with rfl|hi
         .simp[hm]
         .exact h1 i hi
        .cases h
       .cases h
     .cases h
    .cases h;simp
    .split at h
     .rename_i hm;cases h;simp[hm]
     .cases h
    .exact(TA h).2
    .cases h
   .cases h
  .cases h
 |binOp op t x y _=>
  simp only[bh] at h;split at h
  .rename_i C he;simp only[aY] at h;subst h;unfold nd at he;split at he
   .cases he;simp
   .split at he
    .rename_i hm;cases he;simp[hm]
    .cases he
   .split at he
    .rename_i hm;cases he;simp[hm]
    .cases he
   .cases he
  .cases hb:rD P op t (ρ x) (ρ y) with
   |none=>rw[hb] at h;cases h
   |some r=>rw[hb] at h;cases h;simp
 |lookup t x k ok=>exact(Tz h).2.2
 |mapUpdate t x k v=>exact(I2 h).2
 |insert t x k v=>exact(I2 h).2
 |slice t x lo hi J=>
  simp only[bh] at h;unfold nJ at h
  repeat' split at h
  all_goals first|(cases h;done)|(cases h;simp_all;done)
 |_=>
  first
  |(simp only[bh] at h;cases h;simp;done)
  |(simp only[bh] at h
    repeat' split at h
    all_goals first
     |(cases h;done)
     |(cases h;simp_all;done)
     |(simp only[eg] at h;obtain⟨x,hx,rfl⟩:=h;simp;done))
def agd{m':Mem}(h:bh P op ρ m nx=some e)(hr:∀ i∈e.rd,m i≠none->m' i=m i):bh P op ρ m' nx=some e:=
 ahM h λi hi=>hr i hi (ai4 h i hi)
def Pk(U:gY ops o st true)(ha:asks st.env o.op)(h:bh P o.op (bS st.env o.op) st.mem st.nx=some e)(hp:e.pre):bI.Ok P ops o st ⟨e.val,e.bn,e.rd,e.new⟩:=by
 intro F β w a m env N he C hm hr hn X r n QX K O;have J:=zu he;refine Wt (m:=m) (nx:=st.nx) (β:=β) (F:=F) (aeu h) (U F β w a env he C) (Uv hm (λh1=>hn st.nx (bK _) (by simp[h1])) C (by rw[Bi J];exact ha) ?_ hp) O;rw[ahL (zG J)];exact agd h hr
def DB{w:World}{a:Act}{args:List D}(O:Region.wanted o (yielded ops a.tmps)=true)(C:gq F β w env a)(ha:asks env o.op)
 (h:eB (bS env o.op) o.op=some (f,args)) (he:nB P f=true) {r:Option Nat} {n:Nat} {QX:Exit->Act->World->Prop} {K:Act->World->Prop}
 (J:∀ vs,Rs F β w args vs->Calls P f vs w λe w'=>∃ v,e=.returned v/\K (a.put o.dst v) w'):ju r n P ops QX o K a w:=by
 let⟨vs,h1,h2⟩:=TX (F:=F) (β:=β) (w:=w) C ha h he;rw[ju,O,bi rfl];refine⟨λ_ _=>trivial,?_⟩;rw[BC (TN h),h1];refine⟨oS,Jw ((J vs h2).mono ?_)⟩;rintro e w' ⟨v,rfl,hk⟩;exact hk
def OL{r:D}(hw:gY ops o st true)(ha:asks st.env o.op)(h:eB (bS st.env o.op) o.op=some (f,args))(hc:aE P f args r):bI.Ok P ops o st ⟨r,[],[],0⟩:=by
 intro F β w a m env N he C hm hr hn hN r n QX K X;have J:=zu he;refine DB (args:=args) (hw F β w a env he C) C (by rw[Bi J];exact ha) (by rw[Dr (zG J)];exact h) hc.1 λvs hR=>?_;refine(Uk hm hc hR).mono λe w' ⟨v,h1,h2,O,U⟩=>⟨v,h1,X v w' β h2 O U λ_ h _=>h⟩
def Wz{O:List D}{r:D}(hw:gY ops o st true)(ha:asks st.env o.op)(h:eB (bS st.env o.op) o.op=some (f,args))(hs:qv P bP st.mem args O)(hc:aE P f O r)(hr:r.lY=true):
 bI.Ok P ops o st ⟨r,[],bP,0⟩:=by
 intro F β w a m env N he C hm U hn hN r n QX K hK;have J:=zu he;refine DB (args:=args) (hw F β w a env he C) C (by rw[Bi J];exact ha) (by rw[Dr (zG J)];exact h) hc.1 λvs hR=>?_;refine(Ul hm hs U hc (adi hr) hR).mono λe w' ⟨v,h1,h2,X,h4⟩=>⟨v,h1,hK v w' β h2 X h4 λ_ h _=>h⟩
def XA{es:List D}{n:Nat}(hw:gY ops o st true)(ha:asks st.env o.op)(h:eB (bS st.env o.op) o.op=some (f,args))(hc:mV P f args es n t):
 bI.Ok P ops o st ⟨.rs st.nx 0 n,[(st.nx,some (.cells es t))],[],1⟩:=by
 intro F β w a m env N he C hm cw hn hN r n QX K hK;have J:=zu he;refine DB (args:=args) (hw F β w a env he C) C (by rw[Bi J];exact ha) (by rw[Dr (zG J)];exact h) hc.1 λvs hR=>?_;refine(afT hm (hn st.nx (bK _) oS) hc hR).mono λe w' ⟨v,β',h1,h2,U,X,h5⟩=>⟨v,h1,hK v w' β' h2 U X λi hi O=>?_⟩
 rw[h5 i (by simp only at O;omega)];exact hi
def ai5{r:D}(hw:gY ops o st true)(ha:asks st.env o.op)(h:eB (bS st.env o.op) o.op=some (f,args))
 (hc:∀ C U,(∀ i∈bP,st.mem i≠none->C i=st.mem i)->iZ P f args C U λr' m' aw=>r'=r/\m'=cT C bn/\aw=U):bI.Ok P ops o st ⟨r,bn,bP,0⟩:=by
 intro F β w a m env N he J hm X hn hN ro n QX K hK;have O:=zu he;have hc:=hc m N X;refine DB (args:=args) (hw F β w a env he J) J (by rw[Bi O];exact ha) (by rw[Dr (zG O)];exact h) hc.1 λvs hR=>?_;refine(hc.2 F β w vs hm hN hR).mono λe w' hp=>?_;let⟨v,d,m',aw,β',h1,⟨e1,e2,e3⟩,h3,h4,h5,h6,_,h7⟩:=hp;subst e1 e2 e3;refine⟨v,h1,hK v w' β' h5 h3 h6 λi hi _=>?_⟩;rcases Nat.lt_or_ge i aw with h|h
 .exact h7 i h hi
 .exact h4 i h
def Ob(b:List (Nat×Option Row)):∀ (a:List (Nat×Option Row)) (m:Mem),cT m (a++b)=cT (cT m a) b
 |[],_=>rfl
 |(i,r)::a,m=>Ob b a (up m i r)
def Uw{r:Row}:∀ {us:List (Nat×Option Row)} {m:Mem},cT m us i=some r->(∃ x∈us,x.1=i/\x.2=some r)\/m i=some r
 |[],_,h=>.inr h
 |(j,s)::us,m,h=>by
  rcases Uw (us:=us) (m:=up m j s) h with⟨x,hx,e⟩|h
  .exact .inl ⟨x,by simp[hx],e⟩
  .by_cases hj:i=j
   .subst hj;rw[ap] at h;exact .inl ⟨(i,s),oS,rfl,h⟩
   .rw[aW _ _ hj] at h;exact .inr h
def Ua:∀ {us:List (Nat×Option Row)} {m m':Mem},m i=m' i->cT m us i=cT m' us i
 |[],_,_,h=>h
 |(j,s)::us,m,m',h=>Ua (us:=us) (by simp[up];split<;>simp[h])
def Vy{i:Nat}:∀ {us:List (Nat×Option Row)} {m:Mem},(∀ x∈us,x.1≠i)->cT m us i=m i
 |[],_,_=>rfl
 |(j,s)::us,m,h=>by
  rw[cT,Vy (us:=us) λx hx=>h x (by simp[hx])];exact aW _ _ λe=>h (j,s) oS e.symm
def Oc{F':Nat->Prop}{β':aN}{w:World}{r:Row}{p:Pl}(hr:JH r)(h:dA P F β w r p):dA P F' β' w r p:=by
 obtain⟨cs,e,rfl,hs⟩:=hr;cases h with
 |nil _=>exact .nil _
 |cells _ _ b o room sz c h1 h2 C J O=>
  refine .cells cs e b o room sz c h1 h2 C J λk d hd=>?_;let⟨u,U,X,uM⟩:=O k d hd;exact⟨u,U,Xj (hs d (cL hd)) X,uM⟩
def YJ{F':Nat->Prop}{β':aN}{w:World}{j off k:Nat}{v:Value}(hb:β' j=β i)(h:R F β w (.rs i off k) v):R F' β' w (.rs j off k) v:=by
 cases h with
 |nW _ _ _ _ h hv=>exact .nW j off k v (hb.trans h) hv
 |lH _ a h=>exact .lH j a (hb.trans h)
 |mK _ _ a b o len room sz h=>exact .mK j off a b o len room sz (hb.trans h)
 |rs _ _ _ cap b o len room sz h h1 h2 C J=>exact .rs j off k cap b o len room sz (hb.trans h) h1 h2 C J
def age{es:List D}{n:Nat}(hw:gY ops o st true)(ha:asks st.env o.op)(h:eB (bS st.env o.op) o.op=some (f,args))(hfr:Wh st.mem bP bn args)
 (qB:∀ d∈es,d.lY=true) (hc:∀ jl,iZ P f args (only bP st.mem) jl λr' m' _=>∃ q,jl<=q/\r'=.rs q 0 n/\m' q=some (.cells es t)/\∀ i∈bP,m' i=cT st.mem bn i):
 bI.Ok P ops o st ⟨.rs st.nx 0 n,bn++[(st.nx,some (.cells es t))],bP,1⟩:=by
 intro F β w a m env N he hE hm cw hn hN ro k QX K hK;have jN:=zu he;let⟨f1,f2,f3⟩:=hfr
 have EY:∀ i∈bP,m i=st.mem i:=λi hi=>by
  let⟨r,hr,_⟩:=f1 i hi;exact cw i hi (by simp[hr])
 have Sa:∀ i∈bP,∃ p,β i=some p:=λi hi=>by
  let⟨r,hr,_⟩:=f1 i hi;let⟨p,hp,_⟩:=hm.row i r ((EY i hi).trans hr);exact⟨p,hp⟩
 have eh:β st.nx=none:=hn st.nx (bK _) (Nat.lt_succ_self _)
 have hnr:st.nx∉bP:=λhx=>by
  let⟨p,hp⟩:=Sa _ hx;rw[eh] at hp;cases hp
 have hrN:∀ i∈bP,i<N:=λi hi=>by
  let⟨p,hp⟩:=Sa i hi;rcases Nat.lt_or_ge i N with g|g
  .exact g
  .rw[hN i g] at hp;cases hp
 have hc:=hc N
 have hon:only bP st.mem=only bP m:=by
  funext i;unfold only;split
  .rename_i hi;exact(EY i hi).symm
  .rfl
 rw[hon] at hc;refine DB (args:=args) (hw F β w a env he hE) hE (by rw[Bi jN];exact ha) (by rw[Dr (zG jN)];exact h) hc.1 λvs hR=>?_
 let β2:aN:=λi=>if i∈bP then β i else none
 let F2:Nat->Prop:=λb=>F b\/∃ i p,i∉bP/\β i=some p/\p.blk=some b
 have b2:∀ {i p},β2 i=some p->i∈bP/\β i=some p:=λ{i p} hi=>by
  simp only[β2] at hi;split at hi
  .rename_i g;exact⟨g,hi⟩
  .cases hi
 have Mf:∀ {i},i∈bP->β2 i=β i:=λ{i} hi=>bi hi
 have tM:aQ P F2 (only bP m) β2 w:=by
  refine⟨λi r hi=>?_,λi j p q b hp hq e X=>hm.inj i j p q b (b2 hp).2 (b2 hq).2 e X,λi p b hp e=>hm.lt i p b (b2 hp).2 e,λi p b hp e C=>?_,hm.fb.next (λb C=>?_) (λ_ h=>.inl h) λ_ _ _=>rfl⟩
  .unfold only at hi;split at hi
   .rename_i rJ;let⟨p,hp,an⟩:=hm.row i r hi;let⟨r',fR,hs⟩:=f1 i rJ;rw[EY i rJ,fR] at hi;cases hi;exact⟨p,(Mf rJ).trans hp,Oc hs an⟩
   .cases hi
  .rcases C with C|⟨j,q,hj,hq,eq⟩
   .exact hm.nf i p b (b2 hp).2 e C
   .have:=hm.inj i j p q b (b2 hp).2 hq e eq;subst this;exact hj (b2 hp).1
  .rcases C with C|⟨j,q,_,hq,eq⟩
   .exact hm.fb.lt b C
   .exact hm.lt j q b hq eq
 have yP:Rs F2 β2 w args vs:=⟨hR.1,λk d v hd hv=>by
  have h0:=hR.2 k d v hd hv;rcases f3 d (cL hd) with ht|⟨i,off,l,hi,rfl⟩
  .refine(ht F β w v h0).lift λb hb=>⟨λC=>?_,λi p hp e=>?_⟩
   .rcases C with C|⟨j,q,_,hq,eq⟩
    .exact hb (.inl C)
    .exact hb (.inr λjS=>jS j q hq eq)
   .exact hb (.inr λjS=>jS i p (b2 hp).2 e)
  .exact YJ (Mf hi) h0⟩
 refine(hc.2 F2 β2 w vs tM (λi hi=>?_) yP).mono ?_
 .simp only[β2];split
  .rename_i g;have:=hrN i g;omega
  .rfl
 rintro e w' ⟨v,d,m',aw,β',h1,⟨q,hq,rfl,hmq,fH⟩,h3,h4,h5,U,h7,h8⟩;have hqr:q∉bP:=λhx=>by have:=hrN q hx;omega
 have Q3:∀ i p b,i∉bP->β i=some p->p.blk=some b->β2.free b:=λi p b hi hp e j r hj X=>by
  have:=hm.inj i j p r b hp (b2 hj).2 e X;subst this;exact hi (b2 hj).1
 let β3:aN:=λi=>if i=st.nx then β' q else if i∈bP then β' i else β i
 have Sb:β3 st.nx=β' q:=bi rfl
 have Mg:∀ {i},i∈bP->β3 i=β' i:=λ{i} hi=>by
  simp[β3];rw[ai (show ¬ i=st.nx from λe=>hnr (e▸hi)),bi hi]
 have Mh:∀ {i},i≠st.nx->i∉bP->β3 i=β i:=λ{i} h1 h2=>by
  simp[β3];rw[ai h1,ai h2]
 have Ij:∀ i p,β3 i=some p->(∃ j,β' j=some p/\((i=st.nx/\j=q)\/(i∈bP/\j=i)))\/(i≠st.nx/\i∉bP/\β i=some p):=λi p hp=>by
  by_cases O:i=st.nx
  .subst O;exact .inl ⟨q,Sb▸hp,.inl ⟨rfl,rfl⟩⟩
  .by_cases e2:i∈bP
   .exact .inl ⟨i,(Mg e2)▸hp,.inr ⟨e2,rfl⟩⟩
   .exact .inr ⟨O,e2,(Mh O e2)▸hp⟩
 have lL:Step β w β3 w':=by
  refine⟨U.size,λb hb hf=>?_,λi p hp=>?_,U.out,λi r hp ki=>?_⟩
  rotate_left 2
  .have O:i≠st.nx:=λe=>by rw[e,eh] at hp;cases hp
   by_cases e2:i∈bP
   .exact U.lp i r ((Mf e2).trans hp) ((Mg e2)▸ki)
   .exact pV (U.fF r (hm.lt i _ r hp rfl) (Q3 i _ r e2 hp rfl)).1
  .have Ik:β2.free b:=λi p hp e=>hf i p (b2 hp).2 e;let⟨g1,g2⟩:=U.fF b hb Ik;refine⟨g1,λi p hp e=>?_⟩;rcases Ij i p hp with⟨j,hj,_⟩|⟨_,_,hj⟩
   .exact g2 j p hj e
   .exact hf i p hj e
  .have O:i≠st.nx:=λe=>by rw[e,eh] at hp;cases hp
   by_cases e2:i∈bP
   .rw[Mg e2];exact U.iL i p ((Mf e2).trans hp)
   .rw[Mh O e2];exact .inl hp
 have XB:∀ i p j r b,i∉bP->β i=some p->p.blk=some b->β' j=some r->r.blk=some b->False:=λi p j r b hi hp e hj X=>
  (U.fF b (hm.lt i p b hp e) (Q3 i p b hi hp e)).2 j r hj X
 refine⟨v,h1,hK v w' β3 (YJ Sb h5) ?_ lL λi hi bC=>?_⟩
 .rw[Ob];show aQ P F (up (cT m bn) st.nx (some (.cells es t))) β3 w';refine⟨λi r hi=>?_,λi j p r b hp hr e X=>?_,λi p b hp e=>?_,λi p b hp e=>?_,hm.fb.next (λb C=>Nat.lt_of_lt_of_le (hm.fb.lt b C) U.size) (λ_ h=>h) λt _ C=>(U.fF _ (hm.fb.lt _ C) λi p hp e=>hm.nf i p _ (b2 hp).2 e C).1⟩
  .by_cases O:i=st.nx
   .subst O;rw[ap] at hi;cases hi;let⟨p,hp,an⟩:=h3.row q _ hmq;exact⟨p,Sb.trans hp,Oc ⟨es,t,rfl,qB⟩ an⟩
   .rw[aW _ _ O] at hi;by_cases e2:i∈bP
    .rw[Ua (EY i e2), <- fH i e2] at hi;let⟨p,hp,an⟩:=h3.row i r hi
     have hs:JH r:=by
      rw[fH i e2] at hi;rcases Uw hi with⟨x,hx,_,hxr⟩|hi
      .exact(f2 x hx).2 r hxr
      .let⟨r',fR,hs⟩:=f1 i e2;rw[fR] at hi;cases hi;exact hs
     exact⟨p,(Mg e2).trans hp,Oc hs an⟩
    .rw[Vy (i:=i) λx hx (e:x.1=i)=>e2 (e▸(f2 x hx).1)] at hi;let⟨p,hp,an⟩:=hm.row i r hi;exact⟨p,(Mh O e2).trans hp,an.step lL λb e=>(U.fF b (hm.lt i p b hp e) (Q3 i p b e2 hp e)).1⟩
  .rcases Ij i p hp with⟨i',J,ci⟩|⟨i1,i2,J⟩<;>rcases Ij j r hr with⟨j',jm,cj⟩|⟨j1,j2,jm⟩
   .have:=h3.inj i' j' p r b J jm e X;subst this;rcases ci with⟨rfl,rfl⟩|⟨ci,rfl⟩<;>rcases cj with⟨rfl,c⟩|⟨cj,c⟩
    .rfl
    .subst c;exact absurd cj hqr
    .subst c;exact absurd ci hqr
    .exact c
   .exact(XB j r i' p b j2 jm X J e).elim
   .exact(XB i p j' r b i2 J e jm X).elim
   .exact hm.inj i j p r b J jm e X
  .rcases Ij i p hp with⟨i',J,_⟩|⟨_,_,J⟩
   .exact h3.lt i' p b J e
   .exact Nat.lt_of_lt_of_le (hm.lt i p b J e) U.size
  .rcases Ij i p hp with⟨i',J,_⟩|⟨_,_,J⟩
   .exact λC=>h3.nf i' p b J e (.inl C)
   .exact hm.nf i p b J e
 .have O:i≠st.nx:=by simp only at bC;omega
  have e2:i∉bP:=λhx=>by
   let⟨p,hp⟩:=Sa i hx;rw[hi] at hp;cases hp
  rw[Mh O e2];exact hi
end
end
end Go.Abs
