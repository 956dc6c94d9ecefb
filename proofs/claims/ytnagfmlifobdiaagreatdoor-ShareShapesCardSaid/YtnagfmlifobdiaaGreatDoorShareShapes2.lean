/- Part 2. -/
import Derived.Test.YtnagfmlifobdiaaGreatDoorShareShapes1
import Derived.ChangeKeysEq
import Derived.OrdersIn
import Derived.ProofKit
set_option linter.all false
namespace Go.Abs
section
variable{P:Program}{F:Nat->Prop}{m:Mem}{nx:Nat}{β:aJ}{w w':World}
theorem Rd.Cq{b o:Nat}{cs:List D}(h:Rd F β w b o cs):∃ c:List Value,Rl F β w cs c/\∀ (j:Nat) (u:Value),c[j]? =some u->w.cell? ((⟨b,o,none⟩:Addr).add j)=some u:=by
 obtain⟨us,h1,h2⟩:=h;refine⟨(List.range cs.length).map us,⟨oS,fun k d u hk hu=>?_⟩,fun j u hu=>?_⟩
 .have al:k<cs.length:=(bX.1 hk).1;simp[al] at hu;subst hu;exact⟨h2 k d hk,(h1 k al).2⟩
 .have al:j<cs.length:=by
   have:=(bX.1 hu).1;simpa using this
  simp[al] at hu;subst hu;rw[Addr.add_lit];exact(h1 j al).1
theorem RP(hm:aL P F m β w){sz:Nat}{x:D}{v:Value}{p:Prop}{rd:List Nat}{k:Nat}{news:List D}(hx:R F β w x v)(h:jC m sz x=some (p,rd,k,news))(hp:p)
 (J:∀ i off n cs e,x=.rs i off n->m i=some (.cells cs e)->n=0\/True):
 ∃ a cap c,v=.slice a k cap/\Rl F β w news c/\c.length=k*sz/\(∀ ad,a=some ad->∀ (j:Nat) (u:Value),c[j]? =some u->w.cell? (ad.add j)=some u)/\(a=none->c=[]/\k*sz=0):=by
 cases x with
 |sl es n=>
  simp only[jC,aV,cN] at h;obtain⟨rfl,rfl,rfl,rfl⟩:=h;rcases hx.wc with⟨rfl,rfl,a,cap,rfl⟩|⟨b,o,cap,rfl,_,_,_,_,_,M⟩
  .exact⟨a,cap,[],rfl,⟨oS,oS⟩,oS,oS,oS⟩
  .obtain⟨c,h1,h2⟩:=(M.take (n*sz)).Cq;refine⟨_,cap,c,rfl,h1,?_,fun ad C=>by cases C;exact h2,oS⟩;rw[h1.1,List.length_take];exact Nat.min_eq_left hp
 |z=>
  simp only[jC,aV,cN] at h;obtain⟨rfl,rfl,rfl,rfl⟩:=h;obtain⟨a,rfl⟩:=hx.B2;exact⟨a,0,[],rfl,⟨oS,oS⟩,oS,oS,oS⟩
 |rs i off n=>
  simp only[jC] at h;cases hi:m i with
  |none=>simp[hi] at h
  |some r=>
  cases r with
  |map es=>simp[hi] at h
  |raw es=>simp[hi] at h
  |bs u x T=>simp[hi] at h
  |lp k=>simp[hi] at h
  |jz f r=>simp[hi] at h
  |cells cs e=>
  simp only[hi,aV,cN] at h;obtain⟨rfl,rfl,rfl,rfl⟩:=h;rcases hx.xU hm hi with⟨rfl,rfl,rfl,jK,a,rfl⟩|⟨b,o,room,hβ,aA,O⟩
  .exact⟨a,0,[],rfl,⟨oS,oS⟩,oS,oS,oS⟩
  .rcases O with⟨rfl,a,rfl⟩|⟨cap,rfl,U,X,g3,g4⟩
   .exact⟨a,0,[],rfl,⟨oS,oS⟩,oS,oS,oS⟩
   .obtain⟨c,h1,h2⟩:=((aA.rd.1.drop off).take (n*sz)).Cq;refine⟨_,cap,c,rfl,h1,?_,fun ad C=>by cases C;exact h2,oS⟩;rw[h1.1];simp;omega
 |_=>simp[jC] at h
theorem Z9(t ty e:TypeId)(i:TypeInfo)(ht:P.underlying t=some (.slice e))(hi:P.info? e=some i)(a0 a:Option Addr)(n cap c:Nat)(C:n<=cap):
 (Builtin.append_ #[t,t] ty #[.slice a0 n cap,.slice a 0 c]).run P w=.ok (.slice a0 n cap) w:=by
 cases a0<;>cases a<;>simp[Builtin.append_,run_underlying ht,sizeOf,typeInfo,hi,Builtin.lenOf,C,Builtin.firstCells,loadCells,loadCellsFrom,storeCells]
theorem aaa(t ty e:TypeId)(i:TypeInfo)(ht:P.underlying t=some (.slice e))(hi:P.info? e=some i)(g o n cap:Nat)(cur:Array Value)(hg:w.heap[g]? =some (.cells cur e (0,0)))
 (a:Addr) (k c:Nat) (news:List Value) (hl:news.length=k*i.size) (O:∀ j u,news[j]? =some u->w.cell? (a.add j)=some u) (h1:∀ u∈news,u.oneCell'=true) (M:n+k<=cap) (J:o+n*i.size+news.length<=cur.size):
 (Builtin.append_ #[t,t] ty #[.slice (some ⟨g,o,none⟩) n cap,.slice (some a) k c]).run P w=
  .ok (.slice (some ⟨g,o,none⟩) (n+k) cap) (w.setRow g (cur.toList.take (o+n*i.size)++news++cur.toList.drop (o+n*i.size+news.length)).toArray):=by
 have hf:=run_firstCells_some (P:=P) w i.size k a k c news hl O;have C:=run_storeCells_at P g (o+n*i.size) e news 0 cur w hg (by simpa using J) h1;simp only[Nat.add_zero] at C;simp[Builtin.append_,run_underlying ht,sizeOf,typeInfo,hi,Builtin.lenOf,M,hf,Addr.add_lit,C]
theorem aab(t ty e:TypeId)(i:TypeInfo)(z:Value)(ht:P.underlying t=some (.slice e))(hi:P.info? e=some i)(hz:i.zero=some z)(a0:Option Addr)(n cap:Nat)(iu:List Value)(jB:iu.length=n*i.size)
 (holds:∀ ad,a0=some ad->∀ j v,iu[j]? =some v->w.cell? (ad.add j)=some v) (h0:a0=none->n=0/\cap=0) (M:n<=cap)
 (a:Addr) (k c:Nat) (news:List Value) (hl:news.length=k*i.size) (C:∀ j v,news[j]? =some v->w.cell? (a.add j)=some v) (hg:cap<n+k) (J:n+k<=maxLen) (hb:(n+k)*i.bytes<=140737488355328):
 (Builtin.append_ #[t,t] ty #[.slice a0 n cap,.slice (some a) k c]).run P w=
  .ok (.slice (some ⟨w.heap.size,0,none⟩) (n+k) (grownCap w (n+k) cap e)) (w.drew.alloc (.cells (iu.toArray++news.toArray++Builtin.zeroCells z.cells (grownCap w (n+k) cap e - (n+k))) e)):=by
 simp only[maxLen] at J;cases a0 with
 |some b=>exact run_append_grow w t ty e i z ht hi hz b n cap iu jB (holds b rfl) a k c news hl C hg oG (growslice_fits oG hb)
 |none=>
  obtain⟨rfl,rfl⟩:=h0 rfl;have:iu=[]:=List.eq_nil_of_length_eq_zero (by simpa using jB);subst this;have:=run_append_nil (P:=P) w t ty e i z ht hi hz a k c news hl C oG oG (by simp at hb;omega);simpa using this
theorem aaj(z:Array Value)(n:Nat):(Builtin.zeroCells z n).toList.length=n*z.size:=by simp[Builtin.zeroCells]
theorem Rl.append{C J:List D}{M O:List Value}(h1:Rl F β w C M)(h2:Rl F β w J O):Rl F β w (C++J) (M++O):=by
 refine⟨by simp[h1.1,h2.1],fun k d u hk hu=>?_⟩;by_cases al:k<C.length
 .rw[List.getElem?_append_left al] at hk;rw[List.getElem?_append_left (by rw[h1.1];exact al)] at hu;exact h1.2 k d u hk hu
 .rw[List.getElem?_append_right oG] at hk;rw[List.getElem?_append_right (by rw[h1.1];omega),h1.1] at hu;exact h2.2 _ d u hk hu
theorem Rl.step{cs:List D}{c:List Value}{β':aJ}(h:Rl F β w cs c)(hs:Step β w β' w'):Rl F β' w' cs c:=⟨h.1,fun k d u hk hu=>⟨(h.2 k d u hk hu).1.step hs,(h.2 k d u hk hu).2⟩⟩
theorem acv(hm:aL P F m β w)(hn:β nx=none){e:TypeId}{z:Value}(O:z.cells.size=P.cellsOf e){cs:List D}{c:List Value}(hc:Rl F β w cs c){n N:Nat}(hlen:cs.length=n*P.cellsOf e)(M:n<=N)(dO:N<=maxLen):
 ∃ β',aL P F (up m nx (some (.cells cs e))) β' (w.alloc (.cells (c.toArray++Builtin.zeroCells z.cells (N - n)) e))/\Step β w β' (w.alloc (.cells (c.toArray++Builtin.zeroCells z.cells (N - n)) e))/\
  R F β' (w.alloc (.cells (c.toArray++Builtin.zeroCells z.cells (N - n)) e)) (.rs nx 0 n) (.slice (some ⟨w.heap.size,0,none⟩) n N)/\∀ i,i≠nx->β' i=β i:=by
 obtain⟨h2,C⟩:=Ea hm hn (cs:=cs) (c:=c) (e:=e) hc.1 hc.2 (Builtin.zeroCells z.cells (N - n)).toList
 have J:(c++(Builtin.zeroCells z.cells (N - n)).toList).toArray=c.toArray++Builtin.zeroCells z.cells (N - n):=by
  apply Array.ext';simp
 rw[J] at h2 C;have e2:n*P.cellsOf e+(N - n)*P.cellsOf e=N*P.cellsOf e:=by rw[<- Nat.add_mul];congr 1;omega
 have e3:=aaj z.cells (N - n);rw[O] at e3;refine⟨_,h2,C,?_,fun i hi=>aZ _ _ hi⟩;exact .rs nx 0 n N w.heap.size 0 _ _ _ (an _ _ _) M dO oG oG
theorem Ur(hm:aL P F m β w)(hn:β nx=none)(e:TypeId):aL P F (up m nx (some (.cells [] e))) (up β nx (some .nil)) w/\Step β w (up β nx (some .nil)) w:=by
 have hs:Step β w (up β nx (some .nil)) w:=by
  refine⟨bM _,fun b hb hf=>⟨rfl,fun i q hq=>?_⟩,fun i q hq=>.inl ?_,⟨rfl,rfl⟩,fun _ _ _ _=>px rfl⟩
  .by_cases hi:i=nx
   .subst hi;rw[an] at hq;cases hq;simp[Pl.bF]
   .rw[aZ _ _ hi] at hq;exact hf i q hq
  .rw[aZ _ _ (fun e=>by rw[e,hn] at hq;cases hq)];exact hq
 have sub:∀ i q b,up β nx (some .nil) i=some q->q.bF=some b->β i=some q:=fun i q b hq e=>by
  by_cases hi:i=nx
  .subst hi;rw[an] at hq;cases hq;simp[Pl.bF] at e
  .rw[aZ _ _ hi] at hq;exact hq
 refine⟨⟨fun i r hi=>?_,fun i j p q b hp hq e J=>hm.inj i j p q b (sub i p b hp e) (sub j q b hq J) e J,fun i p b hp e=>hm.lt i p b (sub i p b hp e) e,fun i p b hp e=>hm.nf i p b (sub i p b hp e) e,hm.fb⟩,hs⟩;by_cases C:i=nx
 .subst C;rw[an] at hi;cases hi;exact⟨.nil,an _ _ _,.nil e⟩
 .rw[aZ _ _ C] at hi;obtain⟨p,hp,aA⟩:=hm.row i r hi;exact⟨p,by rw[aZ _ _ C];exact hp,aA.step hs fun _ _=>rfl⟩
structure Src(P:Program)(w:World)(t u ty E:TypeId)(vx:Value)(k:Nat)(c:List Value):Prop where
 len:c.length=k*P.cellsOf E
 zero:k=0->∀ a0 n cap,n<=cap->(Builtin.append_ #[t,u] ty #[.slice a0 n cap,vx]).run P w=.ok (.slice a0 n cap) w
 new:0<k->∀ a0 n cap (iu:List Value) z,(P.info? E).bind (·.zero)=some z->iu.length=n*P.cellsOf E->(∀ ad,a0=some ad->∀ j v,iu[j]? =some v->w.cell? (ad.add j)=some v)->(a0=none->n=0/\cap=0)->n<=cap->cap<n+k->n+k<=maxLen->(n+k)*P.bytesOf E<=140737488355328->
  (Builtin.append_ #[t,u] ty #[.slice a0 n cap,vx]).run P w=.ok (.slice (some ⟨w.heap.size,0,none⟩) (n+k) (grownCap w (n+k) cap E)) (w.drew.alloc (.cells (iu.toArray++c.toArray++Builtin.zeroCells z.cells (grownCap w (n+k) cap E - (n+k))) E))
 fit:0<k->∀ g o n cap (cur:Array Value),w.heap[g]? =some (.cells cur E (0,0))->n+k<=cap->o+n*P.cellsOf E+c.length<=cur.size->(∀ v∈c,v.oneCell'=true)->
  (Builtin.append_ #[t,u] ty #[.slice (some ⟨g,o,none⟩) n cap,vx]).run P w=.ok (.slice (some ⟨g,o,none⟩) (n+k) cap) (w.setRow g (cur.toList.take (o+n*P.cellsOf E)++c++cur.toList.drop (o+n*P.cellsOf E+c.length)).toArray)
theorem Lr(hm:aL P F m β w){t ty:TypeId}{x:D}{vx:Value}{p:Prop}{rd:List Nat}{k:Nat}{news:List D}(hx:R F β w x vx)(h:jC m (P.cellsOf (aE P t)) x=some (p,rd,k,news))(hp:p)(ht:bh P t=true)(lZ:0<P.cellsOf (aE P t)):
 ∃ c,Rl F β w news c/\Src P w t t ty (aE P t) vx k c:=by
 obtain⟨hu,cE⟩:=jD ht;obtain⟨i,d,z,hi,hd,hz,_,kU,_,bS,hb,_⟩:=sG cE;obtain⟨a,c',c,rfl,dw,M,O,PN⟩:=RP hm hx h hp (fun _ _ _ _ _ _ _=>.inr trivial)
 have U:0<k->∃ ad,a=some ad:=fun hk=>by
  cases a with
  |none=>have:=(PN rfl).2;have:=Nat.mul_pos hk lZ;omega
  |some ad=>exact⟨ad,rfl⟩
 refine⟨c,dw,M,fun hk a0 n cap C=>?_,fun hk a0 n cap iu z' J od wg h0 wV hg dO lK=>?_,fun hk g o n cap cur OG uF EY nA=>?_⟩
 .subst hk;exact Z9 (P:=P) (w:=w) t ty _ i hu hi a0 a n cap c' C
 .obtain⟨ad,rfl⟩:=U hk;simp only[hi,Option.bind_some] at J;rw[hz] at J;cases J;exact aab (P:=P) (w:=w) t ty _ i z hu hi hz a0 n cap iu (by rw[bS];exact od) wg h0 wV ad k c' c (by rw[bS];exact M) (O ad rfl) hg dO (by rw[hb];exact lK)
 .obtain⟨ad,rfl⟩:=U hk;have X:=aaa (P:=P) (w:=w) t ty _ i hu hi g o n cap cur OG ad k c' c (by rw[bS];exact M) (O ad rfl) nA uF (by rw[bS];omega);rw[bS] at X;exact X
theorem DE(hm:aL P F m β w)(hn:β nx=none){t u ty E:TypeId}{vs vx:Value}{k:Nat}{news:List D}{c:List Value}(dw:Rl F β w news c)(X:Src P w t u ty E vx k c)(cE:aO P E=true)(lZ:0<P.cellsOf E){pre:Prop}{rd:List Nat}:
 (R F β w .z vs->k<=maxLen->k*P.bytesOf E<=140737488355328->aU P F m nx β w { pre:=pre,val:=.rs nx 0 k,a7:=[(nx,some (.cells news E))],rd:=rd,new:=1 } (do Pure.pure (Next.value (<- Builtin.append_ #[t,u] ty #[vs,vx]))))/\
 (∀ es n,R F β w (.sc es n) vs->0<k->n*P.cellsOf E=es.length->n+k<=maxLen->(n+k)*P.bytesOf E<=140737488355328->
  aU P F m nx β w { pre:=pre,val:=.rs nx 0 (n+k),a7:=[(nx,some (.cells (es++news) E))],rd:=rd,new:=1 } (do Pure.pure (Next.value (<- Builtin.append_ #[t,u] ty #[vs,vx]))))/\
 ∀ i off n cs,R F β w (.rs i off n) vs->m i=some (.cells cs E)->off+n*P.cellsOf E=cs.length->n+k<=maxLen->(n+k)*P.bytesOf E<=140737488355328->
  aU P F m nx β w { pre:=pre,val:=.rs nx 0 (n+k),a7:=[(i,none),(nx,some (.cells (cs.drop off++news) E))],rd:=rd,new:=1 } (do Pure.pure (Next.value (<- Builtin.append_ #[t,u] ty #[vs,vx]))):=by
 obtain⟨ii,d,z,hi,_,hz,_,kU,_,aq1,_⟩:=sG cE;have tJ:=X.len;have MX:k=0->news=[]:=fun hk=>List.eq_nil_of_length_eq_zero (by rw[<- dw.1,tJ,hk];simp)
 have grow:∀ (β0:aJ) (m0:Mem),aL P F m0 β0 w->Step β w β0 w->β0 nx=none->(∀ i,β i=none->β0 i=none)->∀ (a0:Option Addr) (n cap:Nat) (Jm:List D) (iu:List Value),Rl F β0 w Jm iu->iu.length=n*P.cellsOf E->
  (∀ ad,a0=some ad->∀ j v,iu[j]? =some v->w.cell? (ad.add j)=some v)->(a0=none->n=0/\cap=0)->n<=cap->n+k<=maxLen->(n+k)*P.bytesOf E<=140737488355328->0<k->cap<n+k->
  ∃ v w' β',(Builtin.append_ #[t,u] ty #[.slice a0 n cap,vx]).run P w=.ok v w'/\R F β' w' (.rs nx 0 (n+k)) v/\aL P F (up m0 nx (some (.cells (Jm++news) E))) β' w'/\Step β w β' w'/\∀ i,β i=none->(i<nx\/nx+1<=i)->β' i=none:=by
  intro β0 m0 ln wS p9 lS a0 n cap Jm iu hold od wg h0 wV dO lK hk hg;have M:=X.new hk a0 n cap iu z (by simp[hi,hz]) od wg h0 wV hg dO lK;have zc:Rl F β0 w.drew (Jm++news) (iu++c):=(hold.append (dw.step wS)).step Sp;obtain⟨β',C,J,U,g4⟩:=acv (P:=P) (nx:=nx) (e:=E) (z:=z) ln.drew p9 kU zc (n:=n+k) (N:=grownCap w (n+k) cap E) (by rw[<- zc.1,List.length_append,od,tJ,Nat.add_mul]) (grownCap_ge w _ _ _) (grownCap_le_maxLen w _ _ _ dO);have e1:(iu++c).toArray=iu.toArray++c.toArray:=by simp
  rw[e1] at C J U;refine⟨_,_,β',M,U,C,(wS.trans Sp).trans J,fun j hj ko=>?_⟩;rw[g4 j oG];exact lS j hj
 refine⟨fun hs dO lK=>?_,fun es n hs hk hlen dO lK=>?_,fun i off n cs hs dv WB dO lK=>?_⟩
 .obtain⟨a0,rfl⟩:=hs.B2;rcases Nat.eq_zero_or_pos k with hk|hk
  .obtain⟨C,J⟩:=Ur hm hn E;have:=MX hk;subst hk this;exact⟨.value (.slice a0 0 0),.slice a0 0 0,w,up β nx (some .nil),by simp[X.zero rfl a0 0 0 (bM _)],.inl rfl,.jO nx a0 (an _ _ _),C,J,xI⟩
  .obtain⟨v,w',β',M,C,J,U,g4⟩:=grow β m hm (Step.refl β w) hn (fun _ h=>h) a0 0 0 [] [] ⟨rfl,oS⟩ oS oS (fun _=>⟨rfl,rfl⟩) (bM _) oG (by simpa using lK) hk oG;refine⟨.value v,v,w',β',by simp[M],.inl rfl,?_,?_,U,g4⟩
   .simpa using C
   .simpa[cQ] using J
 .cases hs with
  |sc _ _ a h=>
  rcases h.wc with⟨rfl,rfl,a',EZ,hv⟩|⟨b,o,EZ,hv,_,_,_,_,_,bY⟩
  .cases hv;obtain⟨v,w',β',M,C,J,U,g4⟩:=grow β m hm (Step.refl β w) hn (fun _ h=>h) a 0 0 [] [] ⟨rfl,oS⟩ oS oS (fun _=>⟨rfl,rfl⟩) (bM _) dO lK hk oG;exact⟨.value v,v,w',β',by simp[M],.inl rfl,C,by simpa[cQ] using J,U,g4⟩
  .cases hv;obtain⟨iu,FY,PR⟩:=bY.Cq;obtain⟨v,w',β',M,C,J,U,g4⟩:=grow β m hm (Step.refl β w) hn (fun _ h=>h) (some ⟨b,o,none⟩) n n es iu FY (by rw[FY.1];exact hlen.symm) (fun ad xc=>by cases xc;exact PR) oS (bM _) dO lK hk oG;exact⟨.value v,v,w',β',by simp[M],.inl rfl,C,by simpa[cQ] using J,U,g4⟩
 .have cC:i≠nx:=fun e=>by
   obtain⟨p',jA,_⟩:=hm.row i _ dv;rw[e,hn] at jA;cases jA
  have PS:=hm.dead i;have J0:=Bd β w i;have eO:up β i (some .dead) nx=none:=by rw[aZ _ _ (Ne.symm cC)];exact hn
  have lS:∀ j,β j=none->up β i (some .dead) j=none:=fun j hj=>by
   by_cases cV:j=i
   .subst cV;obtain⟨p',jA,_⟩:=hm.row j _ dv;rw[hj] at jA;cases jA
   .rw[aZ _ _ cV];exact hj
  have small:∀ a0:Option Addr,n=0->cs.length=off->vs=.slice a0 0 0->aU P F m nx β w { pre:=pre,val:=.rs nx 0 (n+k),a7:=[(i,none),(nx,some (.cells (cs.drop off++news) E))],rd:=rd,new:=1 } (do Pure.pure (Next.value (<- Builtin.append_ #[t,u] ty #[vs,vx]))):=by
   rintro a0 rfl o0 rfl;have WC:cs.drop off=[]:=by simp;omega
   rcases Nat.eq_zero_or_pos k with rfl|hk
   .have yi:=MX rfl;subst yi;obtain⟨C,J⟩:=Ur PS eO E;refine⟨.value (.slice a0 0 0),.slice a0 0 0,w,_,by simp[X.zero rfl a0 0 0 (bM _)],.inl rfl,.jO nx a0 (an _ _ _),?_,J0.trans J,fun j hj ko=>?_⟩
    .simp only[cQ,WC,List.append_nil];exact C
    .rw[aZ _ _ (by simp only at ko;omega)];exact lS j hj
   .obtain⟨v,w',β',M,C,J,U,g4⟩:=grow _ _ PS J0 eO lS a0 0 0 [] [] ⟨rfl,oS⟩ oS oS (fun _=>⟨rfl,rfl⟩) (bM _) oG lK hk oG;refine⟨.value v,v,w',β',by simp[M],.inl rfl,?_,?_,U,g4⟩
    .simpa using C
    .simp only[cQ,WC];exact J
  rcases hs.xU hm dv with⟨rfl,rfl,rfl,jK,a0,rfl⟩|⟨b,o,room,hβ,aA,pN⟩
  .exact small a0 rfl rfl rfl
  .rcases pN with⟨rfl,a0,rfl⟩|⟨cap,rfl,C,J,U,g4⟩
   .exact small a0 rfl oG rfl
   .obtain⟨iu,FY,PR⟩:=(aA.rd.1.drop off).Cq;have od:iu.length=n*P.cellsOf E:=by rw[FY.1];simp;omega
    rcases Nat.lt_or_ge cap (n+k) with hg|hg
    .have hk:0<k:=by omega
     obtain⟨v,w',β',M,k1,k2,k3,k4⟩:=grow _ _ PS J0 eO lS (some ⟨b,o+off,none⟩) n cap (cs.drop off) iu (FY.step J0) od (fun ad xc=>by cases xc;exact PR) oS C dO lK hk hg;exact⟨.value v,v,w',β',by simp[M],.inl rfl,k1,k2,k3,k4⟩
    ·
      cases aA with
      |cells _ _ _ _ _ _ O tH uF hle bS hh=>
      have aqP:(up β i (some .dead)) nx=none:=eO;rcases Nat.eq_zero_or_pos k with rfl|hk
      .have yi:=MX rfl;subst yi
       obtain⟨q1,q2⟩:=hm.move (w':=w) (nx:=nx) (p':=.cells b (o+off) (cs.drop off).length (room - off) (P.cellsOf E)) hβ rfl rfl hn rfl (fun _ _=>rfl) (.cells (cs.drop off) E) (fun bH=>by
        refine .cells _ E b (o+off) (room - off) _ O tH oG oP rfl fun j d hj=>?_;rw[List.getElem?_drop] at hj;obtain⟨u,o6,qY,qZ⟩:=hh (off+j) d hj
        exact⟨u,by rw[Nat.add_assoc];exact o6,qY.step bH,qZ⟩)
       refine⟨.value (.slice (some ⟨b,o+off,none⟩) n cap),_,w,_,by simp[X.zero rfl (some ⟨b,o+off,none⟩) n cap C],.inl rfl,?_,?_,q2,fun j hj ko=>?_⟩
       .have:=R.rs (F:=F) (β:=up (up β i (some .dead)) nx (some (.cells b (o+off) (cs.drop off).length (room - off) (P.cellsOf E)))) (w:=w) nx 0 n cap b (o+off) (cs.drop off).length (room - off) (P.cellsOf E) (an _ _ _) C J oP oG;simpa using this
       .simp only[cQ,List.append_nil];exact q1
       .rw[aZ _ _ (by simp only at ko;omega)];exact lS j hj
      .have hmul:n*P.cellsOf E+k*P.cellsOf E<=cap*P.cellsOf E:=by rw[<- Nat.add_mul];exact Nat.mul_le_mul_right _ hg
       have nA:∀ u∈c,u.oneCell'=true:=fun u hu=>by
        obtain⟨j,hj⟩:=dR hu;have dK:j<news.length:=by rw[<- dw.1];exact(bX.1 hj).1
        exact(dw.2 j news[j] u (by simp[dK]) hj).2
       have M:=X.fit hk b (o+off) n cap O tH hg oG nA;have fI:news.length=k*P.cellsOf E:=by rw[<- dw.1];exact tJ
       have yd:=setRow_heap w b O (O.toList.take (o+off+n*P.cellsOf E)++c++O.toList.drop (o+off+n*P.cellsOf E+c.length)).toArray E (0,0) tH
       have IZ:(O.toList.take (o+off+n*P.cellsOf E)++c++O.toList.drop (o+off+n*P.cellsOf E+c.length)).toArray.size=O.size:=by
        simp only[List.size_toArray,List.length_append,List.length_take,List.length_drop,Array.length_toList];omega
       obtain⟨q1,q2⟩:=hm.move (w':=w.setRow b (O.toList.take (o+off+n*P.cellsOf E)++c++O.toList.drop (o+off+n*P.cellsOf E+c.length)).toArray) (nx:=nx) (p':=.cells b (o+off) (cs.drop off++news).length (room - off) (P.cellsOf E)) hβ rfl rfl hn oS (fun j hj=>setRow_other w b j _ hj) (.cells (cs.drop off++news) E) (fun bH=>by
        refine .cells _ E b (o+off) (room - off) _ _ yd (by rw[IZ];omega) oP rfl fun j d hj=>?_;have hv:=GL O.toList (o+off+n*P.cellsOf E) c oP (o+off+j);simp only[List.getElem?_toArray];by_cases al:j<(cs.drop off).length
        .rw[List.getElem?_append_left al,List.getElem?_drop] at hj;obtain⟨u,o6,qY,qZ⟩:=hh (off+j) d hj;rw[if_pos (by simp at al;omega)] at hv;exact⟨u,by rw[hv,Nat.add_assoc];simpa using o6,qY.step bH,qZ⟩
        .rw[List.getElem?_append_right oG] at hj;have dK:=(bX.1 hj).1;simp only[List.length_drop] at hj dK al;rw[if_neg oG,if_pos oG,show o+off+j - (o+off+n*P.cellsOf E)=j - (cs.length - off) from by omega] at hv;have XP:j - (cs.length - off)<c.length:=by omega
         obtain⟨r1,r2⟩:=dw.2 _ d c[j - (cs.length - off)] hj (by simp[XP])
         exact⟨_,by rw[hv];simp[XP],r1.step bH,r2⟩)
       refine⟨.value (.slice (some ⟨b,o+off,none⟩) (n+k) cap),_,_,_,by simp[M],.inl rfl,?_,q1,q2,fun j hj ko=>?_⟩
       .refine .rs nx 0 (n+k) cap b (o+off) _ (room - off) _ (an _ _ _) hg J ?_ oG;simp only[List.length_append,List.length_drop];omega
       .rw[aZ _ _ (by simp only at ko;omega)];exact lS j hj
theorem abh(hm:aL P F m β w)(hn:β nx=none){t ty:TypeId}{s x:D}{vs vx:Value}{e:dJ}(hs:R F β w s vs)(hx:R F β w x vx)(h:rN P m nx t s x=some e)(hp:e.pre):
 aU P F m nx β w e (do Pure.pure (Next.value (<- Builtin.append_ #[t,t] ty #[vs,vx]))):=by
 unfold rN at h;simp only at h;cases M:jC m (P.cellsOf (aE P t)) x with
 |none=>simp[M] at h
 |some q=>
 obtain⟨p,rd,k,news⟩:=q;simp only[M] at h;cases s with
 |z=>
  simp only[aV] at h;subst h;obtain⟨ht,O,J,dO,lK⟩:=hp;obtain⟨c,U,X⟩:=Lr (ty:=ty) hm hx M O ht J;exact(DE hm hn U X (jD ht).2 J).1 hs dO lK
 |rs i off n=>
  simp only at h;cases C:m i with
  |none=>simp[C] at h
  |some r=>
  cases r with
  |map es=>simp[C] at h
  |raw es=>simp[C] at h
  |bs u x T=>simp[C] at h
  |lp k=>simp[C] at h
  |jz f r=>simp[C] at h
  |cells cs e'=>
  simp only[C,aV] at h;subst h;obtain⟨ht,hee,O,J,WB,dO,lK,bY⟩:=hp;subst hee;obtain⟨c,U,X⟩:=Lr (ty:=ty) hm hx M O ht J;exact(DE hm hn U X (jD ht).2 J).2.2 i off n cs hs C WB dO lK
 |_=>simp at h
end
theorem Uj{a b:Value}(h:uT a b=true):a=b:=by
 unfold uT at h;split at h
 .simp at h;rw[h.1,h.2]
 .simp at h;rw[h]
 .rename_i a b;simp only[beq_iff_eq] at h;congr 1;cases a;cases b;simp only[ByteArray.mk.injEq];exact Array.ext' (by simpa using h)
 .cases h
theorem Mk:∀ {a b:List Value},kf a b=true->a=b
 |[],[],_=>rfl
 |a::aS,b::bs,h=>by
  simp only[kf,aB] at h;rw[Uj h.1,Mk h.2]
 |[],_::_,h=>by simp[kf] at h
 |_::_,[],h=>by simp[kf] at h
theorem Vw{a b:Value}(h:vt a b=true):a=b:=by
 unfold vt at h;split at h
 .rw[Array.ext' (Mk h)]
 .exact Uj h
def jt:Value->Bool
 | .int _ _ | .bool _ | .string _=>true
 |_=>false
theorem acb{a:Value}(h:jt a=true):uT a a=true:=by
 unfold jt at h;split at h<;>simp_all[uT]
theorem Lp:∀ {a:List Value},a.all jt=true->kf a a=true
 |[],_=>rfl
 |a::aS,h=>by
  simp only[List.all_cons,aB] at h;simp[kf,acb h.1,Lp h.2]
section
variable{P:Program}
structure Ix(P:Program)(t kt et:TypeId):Prop where
 vu:P.underlying t=some (.map kt et)
 elem:aO P et=true
 zero:wW P et=true
 refl:∀ v,dY P kt v=true->vt v v=true
 one:∀ v,dY P kt v=true->v.oneCell'=true\/∃ vs,v=.agg vs
 check:∀ (w:World) (em:Bool) (v:Value),dY P kt v=true->(Instr.checkKey em 10000 kt v).run P w=.ok () w
 find:∀ (w:World) (x:Value),dY P kt x=true->∀ es:List MapEntry,(∀ e∈es,dY P kt e.key=true)->
  ((Instr.findKey kt x es).run P w=.ok none w/\∀ e∈es,e.key≠x)\/∃ j e,(Instr.findKey kt x es).run P w=.ok (some (j,e.val)) w/\es[j]? =some e/\e.key=x
 stays:∀ (w:World) (v:Value),dY P kt v=true->(Instr.keyThatStays v v).run P w=.ok v w
theorem KO{t kt et:TypeId}{d:TypeDesc}(hu:P.underlying t=some (.map kt et))(he:aO P et=true)(hz:wW P et=true)(hd:P.underlying kt=some d)(hk:∀ v,dY P kt v=true↔MapKept.IsKey d v):Ix P t kt et where
 vu:=hu
 elem:=he
 zero:=hz
 refl:=fun v h=>by
  have:=(hk v).1 h;cases d<;>cases v<;>simp_all[MapKept.IsKey,vt,uT]
 one:=fun v h=>by
  have:=(hk v).1 h;left;cases d<;>cases v<;>simp_all[MapKept.IsKey,Value.oneCell']
 check:=fun w em v h=>MapKept.run_checkKey hd ((hk v).1 h) em 9999
 find:=fun w x hx es J=>by
  rcases MapKept.findNow_spec ((hk x).1 hx) es 0 (fun e he=>(hk _).1 (J e he)) with⟨h1,h2⟩|⟨j,e,h1,h2,C⟩
  .exact .inl ⟨MapKept.run_findKey hd h1,h2⟩
  .exact .inr ⟨j,e,by have:=MapKept.run_findKey (P:=P) (w:=w) hd h1;simpa using this,h2,C⟩
 stays:=fun w v h=>MapKept.run_keyThatStays ((hk v).1 h)
theorem Ru{t kt et:TypeId}(hu:P.underlying t=some (.map kt et))(he:aO P et=true)(hz:wW P et=true)(J:(match P.underlying kt with|some (.array _ _)|some (.struct _)=>true|_=>false)=true)
 (h1:P.keyTypeAt 9 kt=true) (h2:P.tiled 9 kt=true):Ix P t kt et:=by
 have C:=deep_law (P:=P) (m:=9) oG h1 h2 J
 have hk:∀ v,dY P kt v=true↔∃ l,keyOf P kt v=some l:=fun v=>by
  unfold dY;split at J
  .simp_all[Option.isSome_iff_exists]
  .simp_all[Option.isSome_iff_exists]
  .cases J
 refine⟨hu,he,hz,fun v h=>?_,fun v h=>?_,fun w em v h=>?_,fun w x hx es O=>?_,fun w v h=>?_⟩
 .obtain⟨l,hl⟩:=(hk v).1 h;obtain⟨xs,L,rfl,M,_⟩:=keyOf_top J hl;have:=cells_of_lits 9 kt h2 _ _ _ M;simp only[vt];rw[this];refine Lp (bT.2 fun u hu=>?_);obtain⟨l,_,rfl⟩:=List.mem_map.1 hu;cases l<;>rfl
 .obtain⟨l,hl⟩:=(hk v).1 h;obtain⟨xs,L,rfl,_⟩:=keyOf_top J hl;exact .inr ⟨xs,rfl⟩
 .obtain⟨l,hl⟩:=(hk v).1 h;exact C.check w em hl
 .obtain⟨l,hl⟩:=(hk x).1 hx;exact C.find w hl es fun e he=>(hk _).1 (O e he)
 .obtain⟨l,hl⟩:=(hk v).1 h;exact C.stays w hl
theorem Bf{t:TypeId}(h:kM P t=true):Ix P t (ik P t) (uV P t):=by
 unfold kM at h;split at h
 .rename_i kt et hu;have C:ik P t=kt:=by simp[ik,hu]
  have e2:uV P t=et:=by simp[uV,hu]
  rw[C,e2];simp only[aB] at h;obtain⟨⟨h1,hz⟩,h2⟩:=h;split at h2
  .rename_i hd;exact KO hu h1 hz hd fun v=>by unfold dY;rw[hd];cases v<;>simp[MapKept.IsKey]
  .rename_i hd;exact KO hu h1 hz hd fun v=>by unfold dY;rw[hd];cases v<;>simp[MapKept.IsKey]
  .rename_i hd;exact KO hu h1 hz hd fun v=>by unfold dY;rw[hd];cases v<;>simp[MapKept.IsKey]
  .rename_i hd;simp only[aB] at h2;exact Ru hu h1 hz (by rw[hd]) h2.1 h2.2
  .rename_i hd;simp only[aB] at h2;exact Ru hu h1 hz (by rw[hd]) h2.1 h2.2
  .cases h2
 .cases h
theorem RM{k:Value}:∀ {es:List (Value×D)},gZ k es=none->∀ e∈es,vt e.1 k=false
 |[],_,e,he=>by cases he
 |(k',d)::es,h,e,he=>by
  simp only[gZ] at h;split at h
  .cases h
  .rename_i C;simp only[Option.map_eq_none_iff] at h;rcases List.mem_cons.1 he with rfl|he
   .simpa using C
   .exact RM h e he
theorem K9{k:Value}:∀ {es:List (Value×D)} {j:Nat} {d:D},gZ k es=some (j,d)->∃ k',es[j]? =some (k',d)/\vt k' k=true
 |[],j,d,h=>by simp[gZ] at h
 |(k',d')::es,j,d,h=>by
  simp only[gZ] at h;split at h
  .rename_i hv;simp only[aV,cN] at h;obtain⟨rfl,rfl⟩:=h;exact⟨k',rfl,hv⟩
  .simp only[dI] at h;obtain⟨⟨U,J⟩,h1,h2⟩:=h;simp only[cN] at h2;obtain⟨rfl,rfl⟩:=h2;obtain⟨C,M,O⟩:=K9 h1;exact⟨C,by simpa using M,O⟩
theorem DO{t kt et:TypeId}(L:Ix P t kt et)(w:World){key:Value}(hk:dY P kt key=true){es:List (Value×D)}(mf:es.all (fun e=>dY P kt e.1)=true){ms:List MapEntry}(hl:ms.length=es.length)
 (U:∀ (k:Nat) (x:Value×D) (m:MapEntry),es[k]? =some x->ms[k]? =some m->m.key=x.1) (eN:(es.map (·.1)).Nodup):
 (gZ key es=none/\(Instr.findKey kt key ms).run P w=.ok none w/\(∀ e∈es,e.1≠key))\/
 ∃ j d e,gZ key es=some (j,d)/\(Instr.findKey kt key ms).run P w=.ok (some (j,e.val)) w/\ms[j]? =some e/\e.key=key/\es[j]? =some (key,d):=by
 have hms:∀ e∈ms,dY P kt e.key=true:=fun e he=>by
  obtain⟨k,C⟩:=dR he;have al:k<es.length:=by rw[<- hl];exact(bX.1 C).1
  rw[U k es[k] e (by simp[al]) C];exact bT.1 mf _ (di al)
 rcases L.find w key hk ms hms with⟨h1,h2⟩|⟨j,e,h1,h2,O⟩
 .left
  have bf:∀ e∈es,e.1≠key:=fun e he hke=>by
   obtain⟨k,C⟩:=dR he;have al:k<ms.length:=by rw[hl];exact(bX.1 C).1
   exact h2 ms[k] (di al) ((U k e ms[k] C (by simp[al])).trans hke)
  refine⟨?_,h1,bf⟩;cases M:gZ key es with
  |none=>rfl
  |some x=>
   obtain⟨j,d⟩:=x;obtain⟨k',O,J⟩:=K9 M;exact absurd (Vw J) (bf _ (cx O))
 .right;have al:j<es.length:=by rw[<- hl];exact(bX.1 h2).1
  have X:es[j]? =some es[j]:=by simp[al]
  have iC:es[j].1=key:=(U j es[j] e X h2).symm.trans O;cases M:gZ key es with
  |none=>
   have:=RM M es[j] (di al);rw[iC,L.refl key hk] at this;cases this
  |some x=>
   obtain⟨j',d⟩:=x;obtain⟨k',J,h5⟩:=K9 M;have C:=Vw h5;subst C;have r6:j'<es.length:=(bX.1 J).1
   have FR:j'=j:=by
    refine(List.getElem_inj (h₀:=by simpa using r6) (h₁:=by simpa using al) eN).1 ?_;simp only[List.getElem_map];have:=(bX.1 J).2;rw[this,iC]
   subst FR;exact⟨j',d,e,rfl,h1,h2,O,J⟩
variable{F:Nat->Prop}{m:Mem}{nx:Nat}{β:aJ}{w:World}
theorem Uk:∀ {cs:List D} {vs us:List Value},B6 cs=some vs->us.length=cs.length->(∀ (k:Nat) (d:D) (u:Value),cs[k]? =some d->us[k]? =some u->R F β w d u)->us=vs
 |[],vs,us,h,hl,_=>by
  simp[B6] at h;subst h;simpa using hl
 |d::cs,vs,us,h,hl,hr=>by
  cases us with
  |nil=>simp at hl
  |cons u us=>
   have h0:=hr 0 d u rfl rfl;cases d with
   |s v=>
    simp only[B6,dI] at h;obtain⟨C,h1,rfl⟩:=h;rw[h0.cI.1,Uk (us:=us) h1 (by simpa using hl) fun k d u hd hu=>hr (k+1) d u (by simpa using hd) (by simpa using hu)]
   |_=>simp[B6] at h
theorem BP{d:D}{key v:Value}(hk:oZ d=some key)(h:R F β w d v):v=key:=by
 unfold oZ at hk;split at hk
 .rw[h.cI.1];simpa using hk
 .obtain⟨us,rfl,hl,hr⟩:=h.sM;simp only[dI] at hk;obtain⟨vs,h1,rfl⟩:=hk;rw[Uk h1 hl hr]
 .cases hk
theorem R.Er(hm:aL P F m β w){i:Nat}{es:List (Value×D)}{v:Value}(h:R F β w (.mp i) v)(hi:m i=some (.map es)):
 ∃ r ms clock,β i=some (.map r)/\v=.map (some r)/\w.heap[r]? =some (.map ms clock)/\ms.size=es.length/\(es.map (·.1)).Nodup/\
  ∀ (k:Nat) (x:Value×D) (m:MapEntry),es[k]? =some x->ms[k]? =some m->m.key=x.1/\R F β w x.2 m.val:=by
 obtain⟨p,hp,aA⟩:=hm.row i _ hi;cases h with
 |AB _ _ h _=>rw[h] at hp;cases hp;cases aA
 |mp _ r h=>
  rw[h] at hp;cases hp;cases aA with
  |map _ _ ms clock h1 h2 C J=>exact⟨r,ms,clock,h,rfl,h1,h2,C,J⟩
theorem R.ahk{es:List (Value×D)}{v:Value}(h:R F β w (.im es) v):
 ∃ r ms clock,v=.map (some r)/\w.heap[r]? =some (.map ms clock)/\ms.size=es.length/\(es.map (·.1)).Nodup/\
  ∀ (k:Nat) (x:Value×D) (m:MapEntry),es[k]? =some x->ms[k]? =some m->m.key=x.1/\R F β w x.2 m.val:=by
 cases h with
 |im _ r ms clock hf hb hc hl eN hk hh=>exact⟨r,ms,clock,rfl,hc,hl,eN,fun k x m hx hm=>⟨hk k x m hx hm,hh k x m hx hm⟩⟩
theorem HB{t:TypeId}(ht:aO P t=true)(C:wW P t=true):∃ v,(zeroValue t).run P w=.ok v w/\R F β w (sX P t) v:=by
 obtain⟨i,d,z,hi,_,hz,tF,kU,O,_,_,h4⟩:=sG ht;obtain⟨U,X⟩:=BQ (F:=F) (β:=β) (w:=w) O h4;refine⟨z,by simp[zeroValue,typeInfo,hi,hz],?_⟩;unfold sX;unfold wW at C;simp only[hi,Option.bind_some,hz] at C
 have single:(∀ cs,z≠ .agg cs)->bI P t=false->R F β w ((bq P t).headD .u) z:=fun J ha=>by
  have hc:z.cells.toList=[z]:=by cases z<;>first|rfl|exact absurd rfl (J _)
  have:bq P t=[oX z]:=by rw[O,hc];rfl
  rw[this];exact MU z
 split at C
 .rename_i cs M;simp only[aV] at M;subst M;rw[if_pos C];have:=R.agg (F:=F) (β:=β) (w:=w) (bq P t) cs.toList (by simpa[Value.cells] using U) fun k d u hd hu=>(X k d u hd (by simpa[Value.cells] using hu)).1;simpa using this
 .rename_i u J hu;simp only[Bool.not_eq_true'] at C;simp only[aV] at hu;rw[if_neg (by simp[C])];exact single (fun cs h=>J cs (by rw[<- hu,h])) C
 .cases C
theorem aa6(hm:aL P F m β w){t:TypeId}{x k:D}{ok:Bool}{vx O:Value}(hx:R F β w x vx)(hk:R F β w k O){e:dJ}(h:oD P m t x k ok=some e)(hp:e.pre):
 aU P F m nx β w e (do Pure.pure (Next.value (<- Instr.lookup t vx O ok))):=by
 unfold oD at h;split at h
 .rename_i key i J;rw[BP J hk];split at h
  .rename_i es hi;cases h;obtain⟨h1,h2,M⟩:=hp;have L:=Bf h1;obtain⟨r,ms,clock,U,rfl,hb,hl,eN,hh⟩:=hx.Er hm hi;obtain⟨z,hz,C⟩:=HB (F:=F) (β:=β) (w:=w) L.elem L.zero;rcases DO L w h2 M (ms:=ms.toList) (by simpa using hl) (fun k x m hx hm=>(hh k x m hx (by simpa using hm)).1) eN with⟨f1,f2,_⟩|⟨j,d,en,f1,f2,f3,f4,f5⟩
   .refine⟨.value (if ok then .tuple #[z,.bool false] else z),_,w,β,?_,.inl rfl,?_,hm,Step.refl β w,fun _ h _=>h⟩
    .simp[Instr.lookup,run_underlying L.vu,MapKept.run_getObj_map hb,L.check w _ key h2,f2,hz]
    .simp only[f1,lf];cases ok
     .exact C
     .exact .bd _ [z,.bool false] rfl fun k d u hd hu=>by
       match k with
       |0=>simp at hd hu;subst hd;subst hu;exact C
       |1=>simp at hd hu;subst hd;subst hu;exact .s _ rfl
       |k+2=>simp at hd
   .have hv:=(hh j _ en f5 (by simpa using f3)).2;refine⟨.value (if ok then .tuple #[en.val,.bool true] else en.val),_,w,β,?_,.inl rfl,?_,hm,Step.refl β w,fun _ h _=>h⟩
    .simp[Instr.lookup,run_underlying L.vu,MapKept.run_getObj_map hb,L.check w _ key h2,f2]
    .simp only[f1,lf];cases ok
     .exact hv
     .exact .bd _ [en.val,.bool true] rfl fun k d u hd hu=>by
       match k with
       |0=>simp at hd hu;subst hd;subst hu;exact hv
       |1=>simp at hd hu;subst hd;subst hu;exact .s _ rfl
       |k+2=>simp at hd
  .cases h
 .rename_i key es J;rw[BP J hk]
  .cases h;obtain⟨h1,h2,M⟩:=hp;have L:=Bf h1;obtain⟨r,ms,clock,rfl,hb,hl,eN,hh⟩:=hx.ahk;obtain⟨z,hz,C⟩:=HB (F:=F) (β:=β) (w:=w) L.elem L.zero;rcases DO L w h2 M (ms:=ms.toList) (by simpa using hl) (fun k x m hx hm=>(hh k x m hx (by simpa using hm)).1) eN with⟨f1,f2,_⟩|⟨j,d,en,f1,f2,f3,f4,f5⟩
   .refine⟨.value (if ok then .tuple #[z,.bool false] else z),_,w,β,?_,.inl rfl,?_,hm,Step.refl β w,fun _ h _=>h⟩
    .simp[Instr.lookup,run_underlying L.vu,MapKept.run_getObj_map hb,L.check w _ key h2,f2,hz]
    .simp only[f1,lf];cases ok
     .exact C
     .exact .bd _ [z,.bool false] rfl fun k d u hd hu=>by
       match k with
       |0=>simp at hd hu;subst hd;subst hu;exact C
       |1=>simp at hd hu;subst hd;subst hu;exact .s _ rfl
       |k+2=>simp at hd
   .have hv:=(hh j _ en f5 (by simpa using f3)).2;refine⟨.value (if ok then .tuple #[en.val,.bool true] else en.val),_,w,β,?_,.inl rfl,?_,hm,Step.refl β w,fun _ h _=>h⟩
    .simp[Instr.lookup,run_underlying L.vu,MapKept.run_getObj_map hb,L.check w _ key h2,f2]
    .simp only[f1,lf];cases ok
     .exact hv
     .exact .bd _ [en.val,.bool true] rfl fun k d u hd hu=>by
       match k with
       |0=>simp at hd hu;subst hd;subst hu;exact hv
       |1=>simp at hd hu;subst hd;subst hu;exact .s _ rfl
       |k+2=>simp at hd
 .rename_i key J;rw[BP J hk];cases h;obtain⟨h1,h2⟩:=hp;have L:=Bf h1;rw[hx.cI.1];obtain⟨z,hz,C⟩:=HB (F:=F) (β:=β) (w:=w) L.elem L.zero;rcases DO L w h2 (es:=[]) rfl (ms:=[]) rfl oS oS with⟨f1,f2,_⟩|⟨j,d,en,f1,f2,f3,f4,f5⟩
  .refine⟨.value (if ok then .tuple #[z,.bool false] else z),_,w,β,?_,.inl rfl,?_,hm,Step.refl β w,fun _ h _=>h⟩
   .simp[Instr.lookup,run_underlying L.vu,L.check w _ key h2,f2,hz]
   .simp only[lf];cases ok
    .exact C
    .exact .bd _ [z,.bool false] rfl fun k d u hd hu=>by
      match k with
      |0=>simp at hd hu;subst hd;subst hu;exact C
      |1=>simp at hd hu;subst hd;subst hu;exact .s _ rfl
      |k+2=>simp at hd
  .simp at f5
 .cases h
theorem aa7{w:World}{r:Nat}{o o':Obj}(hb:w.heap[r]? =some o):(w.heap.setIfInBounds r o').size=w.heap.size/\(w.heap.setIfInBounds r o')[r]? =some o'/\∀ k,k≠r->(w.heap.setIfInBounds r o')[k]? =w.heap[k]? :=
 ⟨oS,(MapKept.heap_set hb).1,fun k hk=>(MapKept.heap_set hb).2 k hk⟩
theorem G0(hm:aL P F m β w){i r:Nat}{ms:Array MapEntry}{clock:Nat}(C:β i=some (.map r))(hb:w.heap[r]? =some (.map ms clock)){es':List (Value×D)}{ms':Array MapEntry}{clock':Nat}
 (hl:ms'.size=es'.length) (eN:(es'.map (·.1)).Nodup) (hh:∀ (k:Nat) (x:Value×D) (m:MapEntry),es'[k]? =some x->ms'[k]? =some m->m.key=x.1/\R F β w x.2 m.val):
 aL P F (up m i (some (.map es'))) β { w with heap:=w.heap.setIfInBounds r (.map ms' clock') }/\Step β w β { w with heap:=w.heap.setIfInBounds r (.map ms' clock') }:=by
 obtain⟨J,X,M⟩:=aa7 (o':=.map ms' clock') hb;have hs:=DI (w':={ w with heap:=w.heap.setIfInBounds r (.map ms' clock') }) hm C rfl (by simp[J]) M;refine⟨hm.write C rfl J M _ (.map es' r ms' clock' X hl eN fun k x U hx O=>?_),hs⟩;obtain⟨h1,h2⟩:=hh k x U hx O;exact⟨h1,h2.step hs⟩
theorem RN(hm:aL P F m β w){t:TypeId}{x k v:D}{vx vk J:Value}(hx:R F β w x vx)(hk:R F β w k vk)(hv:R F β w v J){e:dJ}(h:oE P m t x k v=some e)(hp:e.pre):
 aU P F m nx β w e (do Instr.mapUpdate t vx vk J;Pure.pure Next.skip):=by
 unfold oE at h;split at h
 .rename_i key i wI;rw[BP wI hk];split at h
  .rename_i es hi;cases h;obtain⟨h1,h2,h3⟩:=hp;have L:=Bf h1;obtain⟨r,ms,clock,hβ,rfl,hb,hl,eN,hh⟩:=hx.Er hm hi;rcases DO L w h2 h3 (ms:=ms.toList) (by simpa using hl) (fun k x m hx hm=>(hh k x m hx (by simpa using hm)).1) eN with⟨f1,f2,f3⟩|⟨j,d,en,f1,f2,f3,f4,f5⟩
   .obtain⟨M,O⟩:=G0 (P:=P) hm hβ hb (es':=nz key v es) (ms':=ms.push { key,val:=J,born:=clock }) (clock':=clock+1) (by simp[nz,f1,hl])
     (by
      simp only[nz,f1,List.map_append,List.map_cons,List.map_nil];rw[List.nodup_append];refine⟨eN,oS,fun a ha b ra=>?_⟩;simp only[List.mem_singleton] at ra;subst ra;obtain⟨y,hy,rfl⟩:=List.mem_map.1 ha
      exact f3 y hy)
     (fun k x X hx C=>by
      simp only[nz,f1] at hx;rcases Nat.lt_or_ge k es.length with al|bG
      .rw[List.getElem?_append_left al] at hx;rw[Array.getElem?_push_lt oG] at C;exact hh k x X hx (by rw[<- C];simp[show k<ms.size by omega])
      .rw[List.getElem?_append_right bG] at hx
       have y7:k - es.length=0:=by
        have:=(bX.1 hx).1;simp at this;omega
       rw[y7] at hx;simp at hx;subst hx;have:k=ms.size:=by omega
       subst this;simp at C;subst C
       exact⟨rfl,hv⟩)
    exact⟨.skip,undef,_,β,by simp[Instr.mapUpdate,run_underlying L.vu,MapKept.run_getObj_map hb,L.check w _ key h2,f2,MapKept.run_setObj_map _ hb],.inr ⟨rfl,rfl⟩,.bd [] [] rfl oS,M,O,fun _ h _=>h⟩
   .have Jl:j<es.length:=(bX.1 f5).1
    obtain⟨M,O⟩:=G0 (P:=P) hm hβ hb (es':=nz key v es) (ms':=ms.modify j fun e=>{ e with key:=key,val:=J }) (clock':=clock) (by simp[nz,f1,hl])
     (by
      have:(nz key v es).map (·.1)=es.map (·.1):=by
       simp only[nz,f1,List.map_set]
       have h5:(es.map (·.1))[j]'(by simpa using Jl)=key:=by
        have:=(bX.1 f5).2;simp[this]
       rw[<- h5];exact List.set_getElem_self _
      rw[this];exact eN)
     (fun k x X hx C=>by
      simp only[nz,f1] at hx;rw[Array.getElem?_modify] at C;by_cases U:k=j
      .subst U;simp only[if_pos] at C;rw[List.getElem?_set_self Jl] at hx;simp only[aV] at hx;subst hx;simp only[dI] at C;obtain⟨en',_,rfl⟩:=C;exact⟨rfl,hv⟩
      .rw[if_neg (Ne.symm U)] at C;rw[List.getElem?_set_ne (Ne.symm U)] at hx
       exact hh k x X hx C)
    have hj:ms[j]? =some en:=by simpa using f3
    exact⟨.skip,undef,_,β,by simp[Instr.mapUpdate,run_underlying L.vu,MapKept.run_getObj_map hb,L.check w _ key h2,f2,hj,f4,L.stays w key h2,MapKept.run_setObj_map _ hb],.inr ⟨rfl,rfl⟩,.bd [] [] rfl oS,M,O,fun _ h _=>h⟩
  .cases h
 .cases h
theorem af0{ts:Array TypeId}(h:ts.size≠0):ts[0]? =some (ts.getD 0 0):=by
 have:0<ts.size:=by omega
 simp[Array.getD_eq_getD_getElem?,this]
theorem aa8(hm:aL P F m β w){ts:Array TypeId}{ty:TypeId}(mR:ts.size≠0){x k:D}{vx vk:Value}(hx:R F β w x vx)(hk:R F β w k vk){e:dJ}(h:vL P m (ts.getD 0 0) x k=some e)(hp:e.pre):
 aU P F m nx β w e (do Pure.pure (Next.value (<- Builtin.delete_ ts ty #[vx,vk]))):=by
 have tG:=af0 mR;generalize ts.getD 0 0=t at*
 unfold vL at h;split at h
 .rename_i key i wI;rw[BP wI hk];split at h
  .rename_i es hi;cases h;obtain⟨h1,h2,h3⟩:=hp;have L:=Bf h1;obtain⟨r,ms,clock,hβ,rfl,hb,hl,eN,hh⟩:=hx.Er hm hi;rcases DO L w h2 h3 (ms:=ms.toList) (by simpa using hl) (fun k x m hx hm=>(hh k x m hx (by simpa using hm)).1) eN with⟨f1,f2,f3⟩|⟨j,d,en,f1,f2,f3,f4,f5⟩
   .obtain⟨M,O⟩:=G0 (P:=P) hm hβ hb (es':=uU key es) (ms':=ms) (clock':=clock) (by simp[uU,f1,hl]) (by simpa[uU,f1] using eN) (fun k x J hx C=>hh k x J (by simpa[uU,f1] using hx) C);exact⟨.value (.tuple #[]),.tuple #[],_,β,by simp[Builtin.delete_,tG,run_underlying L.vu,MapKept.run_getObj_map hb,L.check w _ key h2,f2,MapKept.run_setObj_map _ hb],.inl rfl,.bd [] [] rfl oS,M,O,fun _ h _=>h⟩
   .have Jl:j<es.length:=(bX.1 f5).1;have X:j<ms.size:=by omega
    have he:∀ k,(ms.eraseIdxIfInBounds j)[k]? =if k<j then ms[k]? else ms[k+1]? :=fun k=>by
     have h0:(ms.eraseIdxIfInBounds j).toList=ms.toList.eraseIdx j:=by simp[Array.eraseIdxIfInBounds,X]
     rw[<- Array.getElem?_toList,h0,List.getElem?_eraseIdx];simp
    obtain⟨M,O⟩:=G0 (P:=P) hm hβ hb (es':=uU key es) (ms':=ms.eraseIdxIfInBounds j) (clock':=clock) (by simp[uU,f1,Array.eraseIdxIfInBounds,X,hl,List.length_eraseIdx,Jl])
     (by simp only[uU,f1];exact List.Nodup.sublist ((List.eraseIdx_sublist es j).map _) eN)
     (fun k x J hx C=>by
      simp only[uU,f1,List.getElem?_eraseIdx] at hx;rw[he] at C;split at hx
      .rename_i U;rw[if_pos U] at C;exact hh k x J hx C
      .rename_i U;rw[if_neg U] at C;exact hh (k+1) x J hx C)
    exact⟨.value (.tuple #[]),.tuple #[],_,β,by simp[Builtin.delete_,tG,run_underlying L.vu,MapKept.run_getObj_map hb,L.check w _ key h2,f2,MapKept.run_setObj_map _ hb],.inl rfl,.bd [] [] rfl oS,M,O,fun _ h _=>h⟩
  .cases h
 .cases h
end
theorem RL{a b:Value}(h:zT a b=true):jt a=true/\jt b=true:=by
 unfold zT at h;split at h<;>first|exact⟨rfl,rfl⟩|cases h
def B'(xs ys:List Value):Prop:=xs.length=ys.length/\∀ (k:Nat) (x y:Value),xs[k]? =some x->ys[k]? =some y->zT x y=true
section
variable{P:Program}
theorem aa4{xs ys:List Value}(h:B' xs ys):(∀ x∈xs,jt x=true)/\∀ y∈ys,jt y=true:=by
 refine⟨fun x hx=>?_,fun y hy=>?_⟩
 .obtain⟨k,hk⟩:=dR hx;have al:k<ys.length:=by rw[<- h.1];exact(bX.1 hk).1
  exact(RL (h.2 k x ys[k] hk (by simp[al]))).1
 .obtain⟨k,hk⟩:=dR hy;have al:k<xs.length:=by rw[h.1];exact(bX.1 hk).1
  exact(RL (h.2 k xs[k] y (by simp[al]) hk)).2
theorem ab'(w:World)(d:Nat){t:TypeId}(ht:uS P t=true){x y:Value}(hx:lb x=ye P t)(hk:zT x y=true):
 ∃ r:Bool,(Op.equalIn (d+1) t x y).run P w=.ok r w/\(r=true↔x=y):=by
 unfold zT at hk;unfold ye at hx;split at hk
 .rename_i k a k' b;simp only[beq_iff_eq] at hk;subst hk;split at hx<;>simp[lb] at hx;rename_i hu;exact⟨a==b,run_equalIn_int w d t _ _ a b hu,oS⟩
 .rename_i a b;split at hx<;>simp[lb] at hx;rename_i hu;exact⟨a==b,run_equalIn_bool' w d t a b hu,oS⟩
 .rename_i a b;split at hx<;>simp[lb] at hx;rename_i hu;refine⟨a==b,?_,?_⟩
  .rw[run_equalIn_string w d t a b hu,beq_toListBytes]
  .rw[MapKept.bytes_beq];simp
 .cases hk
theorem step_eq(w:World)(d:Nat){t:TypeId}(ht:uS P t=true){xs ys:Array Value}(hk:B' xs.toList ys.toList){off:Nat}(C:off<xs.size)(M:∀ x,xs.toList[off]? =some x->lb x=ye P t):
 ∃ a b r,(part t xs off).run P w=.ok a w/\(part t ys off).run P w=.ok b w/\(Op.equalIn (d+1) t a b).run P w=.ok r w/\(r=true↔xs.toList[off]? =ys.toList[off]?):=by
 have bS:xs.size=ys.size:=by simpa using hk.1
 have h0:=ht;simp only[uS,aB,Bool.not_eq_true'] at h0;have J:off<ys.size:=by omega
 obtain⟨r,hr,O⟩:=ab' (P:=P) w d ht (x:=xs[off]) (y:=ys[off]) (M _ (by simp[C])) (hk.2 off _ _ (by simp[C]) (by simp[J]));refine⟨xs[off],ys[off],r,?_,?_,hr,?_⟩
 .unfold part;simp[DL w (Bm h0.1.2),h0.2,C]
 .unfold part;simp[DL w (Bm h0.1.2),h0.2,J]
 .rw[O];simp[C,J]
theorem Rq(w:World)(d:Nat){e:TypeId}(ht:uS P e=true){xs ys:Array Value}(hk:B' xs.toList ys.toList):∀ (is:List Nat),(∀ i∈is,i<xs.size/\∀ x,xs.toList[i]? =some x->lb x=ye P e)->
 ∃ r:Bool,(Op.eqItems (d+1) e (P.cellsOf e) xs ys is).run P w=.ok r w/\(r=true↔∀ i∈is,xs.toList[i]? =ys.toList[i]?)
 |[],_=>⟨true,by simp[Op.eqItems],oS⟩
 |i::is,h=>by
  have hc:P.cellsOf e=1:=by simp only[uS,aB,beq_iff_eq] at ht;exact ht.1.1.2
  obtain⟨a,b,r,U,X,p3,C⟩:=step_eq w d ht hk (h i oS).1 (h i oS).2;obtain⟨r',J,M⟩:=Rq w d ht hk is fun j hj=>h j (by simp[hj]);rw[hc] at J ⊢;simp only[Op.eqItems,Nat.mul_one,Sem.run_bind,U,X,p3,Result.andThen_ok];cases r
  .refine⟨false,oS,?_⟩;simp only[Bool.false_eq_true,false_iff] at C ⊢;intro O;exact C (O i oS)
  .refine⟨r',by simpa using J,?_⟩;rw[M]
   exact⟨fun h j hj=>by
    rcases List.mem_cons.1 hj with rfl|hj
    .exact C.1 rfl
    .exact h j hj,fun h j hj=>h j (by simp[hj])⟩
theorem Rh(w:World)(d:Nat){xs ys:Array Value}(hk:B' xs.toList ys.toList):∀ (fs:List Field),(∀ f∈fs,f.name≠"_"/\uS P f.type=true/\f.offset<xs.size/\∀ x,xs.toList[f.offset]? =some x->lb x=ye P f.type)->
 ∃ r:Bool,(Op.eqFields (d+1) xs ys fs).run P w=.ok r w/\(r=true↔∀ f∈fs,xs.toList[f.offset]? =ys.toList[f.offset]?)
 |[],_=>⟨true,by simp[Op.eqFields],oS⟩
 |f::fs,h=>by
  obtain⟨hn,ht,ho,w8⟩:=h f oS;obtain⟨a,b,r,U,X,p3,C⟩:=step_eq w d ht hk ho w8;obtain⟨r',O,J⟩:=Rh w d hk fs fun g hg=>h g (by simp[hg]);simp only[Op.eqFields,hn,ne_eq,not_false_eq_true,if_true,Sem.run_bind,U,X,p3,Result.andThen_ok];cases r
  .refine⟨false,oS,?_⟩;simp only[Bool.false_eq_true,false_iff] at C ⊢;intro M;exact C (M f oS)
  .refine⟨r',by simpa using O,?_⟩;rw[J]
   exact⟨fun h j hj=>by
    rcases List.mem_cons.1 hj with rfl|hj
    .exact C.1 rfl
    .exact h j hj,fun h j hj=>h j (by simp[hj])⟩
theorem ad5:∀ {a b:List Value},a.all jt=true->(kf a b=true↔a=b):=fun h=>⟨Mk,fun e=>by subst e;exact Lp h⟩
theorem Rr(w:World){t:TypeId}{ks:List Nat}(ht:B5 P t=some ks){xs ys:List Value}(hk:B' xs ys)(M:xs.map lb=ks):
 (Op.equal t (.agg xs.toArray) (.agg ys.toArray)).run P w=.ok (kf xs ys) w:=by
 obtain⟨s1,s2⟩:=aa4 hk;have bQ:xs.all jt=true:=bT.2 s1
 have fin:∀ r:Bool,(r=true↔xs=ys)->r=kf xs ys:=fun r h=>by
  have:=ad5 (b:=ys) bQ;cases r<;>cases hv:kf xs ys<;>simp_all
 unfold B5 at ht;split at ht
 .rename_i n e hu;split at ht
  .rename_i hc;simp only[aB,beq_iff_eq] at hc;simp only[aV] at ht;subst ht;have hlen:xs.length=n:=by have:=congrArg List.length M;simpa using this
   have J:=hc.1;obtain⟨i,hi⟩:=Option.isSome_iff_exists.1 (ia (show aO P e=true by simp only[uS,aB] at J;exact J.1.2))
   obtain⟨r,hr,X⟩:=Rq (P:=P) w 9998 J (xs:=xs.toArray) (ys:=ys.toArray) (by simpa using hk) (List.range n) fun i hi=>by
    simp only[List.mem_range] at hi;refine⟨by simp;omega,fun x hx=>?_⟩;have:(xs.map lb)[i]? =some (lb x):=by simp at hx;simp[hx]
    rw[M] at this;simp[List.getElem?_replicate,hi] at this;exact this.symm
   have U:=run_equalIn_array (P:=P) (w:=w) 9999 (t:=t) (e:=e) (n:=n) xs.toArray ys.toArray hu hi;show(Op.equalIn (9999+1) t _ _).run P w=_;rw[U,hr,fin r];rw[X];constructor
   .intro h;apply List.ext_getElem?;intro i;rcases Nat.lt_or_ge i n with al|bG
    .simpa using h i (by simpa using al)
    .rw[List.getElem?_eq_none oG,List.getElem?_eq_none (by rw[<- hk.1];omega)]
   .rintro rfl i _;rfl
  .cases ht
 .rename_i fs hu;split at ht
  .rename_i hc;simp only[aB,beq_iff_eq,bT,bne_iff_ne,ne_eq,Bool.not_eq_true'] at hc;obtain⟨⟨hf,O⟩,bH⟩:=hc;simp only[aV] at ht;subst ht;have hlen:xs.length=fs.toList.length:=by have:=congrArg List.length M;simpa using this
   have o0:∀ (l:List Field) (o:Nat),P.runs o l=some (o+l.length)->(∀ f∈l,P.cellsOf f.type=1)->∀ (j:Nat) (f:Field),l[j]? =some f->f.offset=o+j:=by
    intro l
    induction l with
    |nil=>intro o _ _ j f hj;simp at hj
    |cons g l ih=>
     intro o ho h1 j f hj;simp only[Program.runs] at ho;split at ho
     .rename_i PM;have FN:=h1 g oS;rw[FN] at ho;cases j with
      |zero=>simp at hj;subst hj;simpa using PM
      |succ j=>
       have:=ih (o+1) (by rw[ho];simp;omega) (fun f hf=>h1 f (by simp[hf])) j f (by simpa using hj);omega
     .cases ho
   have J:∀ f∈fs.toList,P.cellsOf f.type=1:=fun f C=>by
    have:=(hf f C).2;simp only[uS,aB,beq_iff_eq] at this;exact this.1.1.2
   have lZ:=o0 fs.toList 0 (by simpa using O) J
   obtain⟨r,hr,X⟩:=Rh (P:=P) w 9998 (xs:=xs.toArray) (ys:=ys.toArray) (by simpa using hk) fs.toList fun f C=>by
    obtain⟨j,hj⟩:=dR C;have dK:j<fs.toList.length:=(bX.1 hj).1;have ho:f.offset=j:=by have:=lZ j f hj;omega
    refine⟨(hf f C).1,(hf f C).2,by rw[ho];simp;simp at hlen dK;omega,fun x hx=>?_⟩;rw[ho] at hx;have h1:(xs.map lb)[j]? =some (lb x):=by simp at hx;simp[hx]
    rw[M,List.getElem?_map,hj] at h1;simpa using h1.symm
   have FQ:P.fieldsOf t=fs:=by simp[Program.fieldsOf,hu]
   have U:=run_equalIn_struct (P:=P) w 9999 t xs.toArray ys.toArray (by rw[FQ];exact hu) bH;show(Op.equalIn (9999+1) t _ _).run P w=_;rw[U,FQ,hr,fin r];rw[X];constructor
   .intro h;apply List.ext_getElem?;intro j;rcases Nat.lt_or_ge j fs.toList.length with al|bG
    .have h1:=h fs.toList[j] (di al);have ho:=lZ j fs.toList[j] oS;rw[Nat.zero_add] at ho;rw[ho] at h1;simpa using h1
    .rw[List.getElem?_eq_none oG,List.getElem?_eq_none (by rw[<- hk.1];omega)]
   .rintro rfl f _;rfl
  .cases ht
 .cases ht
variable{F:Nat->Prop}{m:Mem}{nx:Nat}{β:aJ}{w:World}
theorem Lq:∀ {xs ys:List D} {a b:List Value},qN xs ys=some (a,b)->xs=a.map D.s/\ys=b.map D.s/\B' a b
 |[],[],a,b,h=>by
  simp[qN] at h;obtain⟨rfl,rfl⟩:=h;exact⟨rfl,rfl,rfl,oS⟩
 | .s x::xs,.s y::ys,a,b,h=>by
  simp only[qN] at h;split at h
  .rename_i hk;simp only[dI] at h;obtain⟨⟨a',J⟩,h1,h2⟩:=h;simp only[cN] at h2;obtain⟨rfl,rfl⟩:=h2;obtain⟨C,e2,e3,e4⟩:=Lq h1;refine⟨by simp[C],by simp[e2],by simp[e3],fun k u v hu hv=>?_⟩;cases k with
   |zero=>simp at hu hv;subst hu;subst hv;exact hk
   |succ k=>exact e4 k u v (by simpa using hu) (by simpa using hv)
  .cases h
 |[],_::_,_,_,h=>by simp[qN] at h
 |_::_,[],_,_,h=>by simp[qN] at h
 | .u::_,_::_,_,_,h | .ub::_,_::_,_,_,h | .cS _ _::_,_::_,_,_,h | .agg _::_,_::_,_,_,h | .bd _::_,_::_,_,_,h | .z::_,_::_,_,_,h | .sl _ _::_,_::_,_,_,h | .pt _::_,_::_,_,_,h
 | .rs _ _ _::_,_::_,_,_,h | .rp _ _::_,_::_,_,_,h | .mp _::_,_::_,_,_,h | .fn _ _ _::_,_::_,_,_,h=>by simp[qN] at h
 | .s _::_,.u::_,_,_,h | .s _::_,.ub::_,_,_,h | .s _::_,.cS _ _::_,_,_,h | .s _::_,.agg _::_,_,_,h | .s _::_,.bd _::_,_,_,h | .s _::_,.z::_,_,_,h | .s _::_,.sl _ _::_,_,_,h | .s _::_,.pt _::_,_,_,h
 | .s _::_,.rs _ _ _::_,_,_,h | .s _::_,.rp _ _::_,_,_,h | .s _::_,.mp _::_,_,_,h | .s _::_,.fn _ _ _::_,_,_,h=>by simp[qN] at h
theorem Hz{a:List Value}{v:Value}(h:R F β w (.agg (a.map D.s)) v):v=.agg a.toArray:=by
 obtain⟨vs,rfl,hl,hr⟩:=h.sM;congr 2;apply List.ext_getElem?;intro k;rcases Nat.lt_or_ge k a.length with al|C
 .have hk:k<vs.length:=by rw[hl];simpa using al
  have:=(hr k (.s a[k]) vs[k] (by simp[al]) (by simp[hk])).cI.1;simp[al,hk,this]
 .rw[List.getElem?_eq_none (by rw[hl];simpa using C),List.getElem?_eq_none C]
theorem aca(hm:aL P F m β w){op:BinOp}{t:TypeId}(ox oy:Operand){xs ys:List D}{x y:Value}{q:Prop×D}(hx:R F β w (.agg xs) x)(hy:R F β w (.agg ys) y)(h:zF P op t xs ys=some q)(hp:q.1):
 aU P F m nx β w { pre:=q.1,val:=q.2 } ((do eqGuard op t ox oy x y;binOp op t x y)>>=fun r=>Pure.pure (Next.value r)):=by
 unfold zF at h;split at h
 .rename_i J z hf hz;cases h;obtain⟨a,b⟩:=z;obtain⟨C,e2,hk⟩:=Lq hz;subst C e2;rw[Hz hx,Hz hy];have:=Rr (P:=P) w hf hk hp.1;refine aU.val hm (v:=.bool (kf a b)) ?_ (.s _ rfl);have e3:(Op.equalIn 10000 t (.agg a.toArray) (.agg b.toArray)).run P w=.ok (kf a b) w:=this;simp only[Sem.run_bind,run_eqGuard_agg (P:=P) w .eql t ox oy _ _ hp.2,Result.andThen_ok,run_eql_struct,e3,Sem.run_pure]
 .rename_i J z hf hz;cases h;obtain⟨a,b⟩:=z;obtain⟨C,e2,hk⟩:=Lq hz;subst C e2;rw[Hz hx,Hz hy];have:=Rr (P:=P) w hf hk hp.1;refine aU.val hm (v:=.bool !(kf a b)) ?_ (.s _ rfl);have e3:(Op.equalIn 10000 t (.agg a.toArray) (.agg b.toArray)).run P w=.ok (kf a b) w:=this;simp only[Sem.run_bind,run_eqGuard_agg (P:=P) w .neq t ox oy _ _ hp.2,Result.andThen_ok,run_neq_struct,e3,Sem.run_pure]
 .cases h
end
section
variable{P:Program}{F:Nat->Prop}{m:Mem}{nx:Nat}{β:aJ}{w:World}
theorem Ut{ps:Array (Nat×Operand)}{ρ:Operand->D}{a:Act}(h:∀ x∈(ps.toList.map (·.2)),R F β w (ρ x) (a.eval x)):
 (ps.toList.map fun q=>(q.1,ρ q.2)).length=(ps.map fun(i,x)=>(i,a.eval x)).size/\
 ∀ (k:Nat) (p:Nat×D) (q:Nat×Value),(ps.toList.map fun q=>(q.1,ρ q.2))[k]? =some p->(ps.map fun(i,x)=>(i,a.eval x))[k]? =some q->p.1=q.1/\R F β w p.2 q.2:=by
 refine⟨oS,fun k p q hk hq=>?_⟩;simp only[List.getElem?_map,Array.getElem?_map] at hk hq;cases C:ps[k]? with
 |none=>simp[C] at hq
 |some y=>
  simp[C] at hk hq;subst hk;subst hq;exact⟨rfl,h _ (List.mem_map.2 ⟨y,by simpa using Array.mem_of_getElem? C,rfl⟩)⟩
theorem BK{xs:Array Operand}{ρ:Operand->D}{a:Act}(h:∀ x∈xs,R F β w (ρ x) (a.eval x)):
 (xs.toList.map a.eval).length=(xs.toList.map ρ).length/\∀ (k:Nat) (d:D) (v:Value),(xs.toList.map ρ)[k]? =some d->(xs.toList.map a.eval)[k]? =some v->R F β w d v:=by
 refine⟨oS,fun k d v hk hv=>?_⟩;simp only[List.getElem?_map] at hk hv;cases hx:xs.toList[k]? with
 |none=>simp[hx] at hk
 |some x=>
  simp[hx] at hk hv;subst hk;subst hv;exact h x (by simpa using cx hx)
theorem OJ{x:Option Operand}{ρ:Operand->D}{a:Act}(h:∀ y,x=some y->R F β w (ρ y) (a.eval y)):Ro F β w (x.map ρ) (x.map a.eval):=by
 cases x with
 |none=>exact .inl ⟨rfl,rfl⟩
 |some y=>exact .inr ⟨_,_,rfl,rfl,h y rfl⟩
theorem aU.of_eq{e:dJ}{s:Sem Next}(h:e.a7=[]/\e.new=0/\aU P F m nx β w e s):aU P F m nx β w e s:=h.2.2
theorem aak(hm:aL P F m β w){b:Builtin}{ts:Array TypeId}{ty:TypeId}{cs:Array Bool}{ds:List D}{vs:List Value}{e:dJ}(hn:e.new=1->β nx=none)(hl:vs.length=ds.length)
 (hR:∀ (k:Nat) (d:D) (v:Value),ds[k]? =some d->vs[k]? =some v->R F β w d v) (C:ts.size=ds.length) (h:fh P m nx b ts ds=some e) (hp:e.pre):aU P F m nx β w e (builtin b ts ty cs vs.toArray):=by
 cases b
 case len=>
  match ds,vs,hl,h,hR with
  |[d],[v],_,h,hR=>
   simp only[fh] at h;exact aU.of_eq (af4 hm (by simp at C;omega) (hR 0 d v rfl rfl) h hp)
  |[],_,_,h,_=>simp[fh] at h
  |_::_::_,_,_,h,_=>simp[fh] at h
 case append=>
  match ds,vs,hl,h,hR with
  |[s,x],[v,u],_,h,hR=>
   simp only[fh] at h;split at h
   .rename_i J
    match ts,C,J,h with
    |⟨[t,t']⟩,_,J,h=>
     simp[Array.getD_eq_getD_getElem?] at J h;subst J
     have O:e.new=1:=by
      unfold rN at h;simp only at h;split at h
      .cases h
      .split at h
       .simp only[aV] at h;rw[<- h]
       .split at h
        .simp only[aV] at h;rw[<- h]
        .cases h
       .cases h
     exact abh hm (hn O) (hR 0 s v rfl rfl) (hR 1 x u rfl rfl) h hp
    |⟨[]⟩,C,_,_=>simp at C
    |⟨[_]⟩,C,_,_=>simp at C
    |⟨_::_::_::_⟩,C,_,_=>simp at C
   .cases h
  |[],_,_,h,_=>simp[fh] at h
  |[_],_,_,h,_=>simp[fh] at h
  |_::_::_::_,_,_,h,_=>simp[fh] at h
 case min=>
  match ds,vs,hl,h,hR with
  |[.s (.int k a),.s (.int k' b)],[v,u],_,h,hR=>
   simp only[fh,aV] at h;subst h;simp only at hp;subst hp;exact Uq hm (hR 0 _ v rfl rfl) (hR 1 _ u rfl rfl)
  |ds,vs,hl,h,hR=>
   unfold fh at h;split at h<;>simp_all;subst h;subst hp
   match vs,hl with
   |[v,u],_=>exact Uq hm (hR 0 _ v rfl rfl) (hR 1 _ u rfl rfl)
 case clear=>
  match ds,vs,hl,h,hR with
  |[d],[v],_,h,hR=>
   cases d with
   |rs i off n=>
    simp only[fh] at h;cases hi:m i with
    |none=>simp[hi] at h
    |some r=>
    cases r with
    |map es=>simp[hi] at h
    |raw es=>simp[hi] at h
    |bs u x T=>simp[hi] at h
    |lp k=>simp[hi] at h
    |jz f r=>simp[hi] at h
    |cells c U=>
     simp only[hi,aV] at h;subst h;obtain⟨h1,h2,M⟩:=hp;exact acu hm (by simp at C;omega) (hR 0 _ v rfl rfl) hi h1 h2 M
   |_=>simp[fh] at h
  |[],_,_,h,_=>simp[fh] at h
  |_::_::_,_,_,h,_=>simp[fh] at h
 case delete=>
  match ds,vs,hl,h,hR with
  |[x,k],[v,u],_,h,hR=>exact aa8 hm (by simp at C;omega) (hR 0 x v rfl rfl) (hR 1 k u rfl rfl) h hp
  |[],_,_,h,_=>simp[fh] at h
  |[_],_,_,h,_=>simp[fh] at h
  |_::_::_::_,_,_,h,_=>simp[fh] at h
 all_goals (simp[fh] at h)
theorem acw(hm:aL P F m β w){o:Oper}{env:Env}{a:Act}{e:dJ}(hn:e.new=1->β nx=none)(hE:gP F β w env a)(ha:asks env o.op)(h:aW P o.op (bn env o.op) m nx=some e)(hp:e.pre):
 aU P F m nx β w e (execOp a.eval o):=by
 obtain⟨dst,op,type,pos,after,guard⟩:=o;simp only at ha h
 have hR:(∀ c x y,op≠ .pick c x y)->∀ x∈op.operands.toList,R F β w (bn env op x) (a.eval x):=fun FV x hx=>by
  have h1:bn env op x=(opd env x).core:=by cases op<;>first|rfl|exact absurd rfl (FV _ _ _)
  have h2:(opd env x).ask:=by cases op<;>first|exact ha x hx|exact absurd rfl (FV _ _ _)
  rw[h1];exact(hE.opd x).xL _ h2
 unfold execOp;cases op with
 |move x=>
  simp only[aW,aV] at h;subst h;exact aU.val hm oS (hR oS x bR)
 |assign x=>
  simp only[aW,aV] at h;subst h;exact aU.val hm oS (hR oS x bR)
 |pick c x y=>
  simp only[aW,bn] at h;cases hc:(opd env c).core.fZ with
  |none=>simp[hc] at h
  |some t=>
  simp only[hc,aV] at h;subst h
  have J2:a.eval c=.bool t:=by
   have h1:=(hE.opd c).xL _ ha;unfold D.fZ at hc;split at hc
   .rename_i b he;cases hc;rw[he] at h1;exact h1.cI.1
   .cases hc
  exact aef hm J2 (hE.opd x) (hE.opd y) hp.1 hp.2
 |alloc t=>
  simp only[aW,aV] at h;subst h;exact acp hm (hn rfl) hp
 |box t x=>
  simp only[aW,aV] at h;subst h;exact af1 hm (hn rfl) (hR oS x bR) hp
 |build t ps=>
  simp only[aW] at h;obtain⟨X,q2⟩:=Ut (F:=F) (β:=β) (w:=w) (ps:=ps) (ρ:=bn env (.build t ps)) (a:=a) (fun x hx=>hR oS x (by simpa[Op.operands] using hx));split at h
  .rename_i fs hu;cases hf:kJ (fun i=>Option.map (fun f=>(f.offset,P.cellsOf f.type)) fs[i]?) (bq P t) (ps.toList.map fun q=>(q.1,bn env (.build t ps) q.2)) with
   |none=>simp[hf] at h
   |some cs=>
    simp only[hf,Option.map_some,aV] at h;subst h;exact ZZ hm hp.1 hu hp.2 X q2 hf
  .rename_i n e' hu;cases hf:kJ (fun i=>some (i*P.cellsOf e',P.cellsOf e')) (bq P t) (ps.toList.map fun q=>(q.1,bn env (.build t ps) q.2)) with
   |none=>simp[hf] at h
   |some cs=>
    simp only[hf,Option.map_some,aV] at h;subst h;exact Z6 hm hp.1 hu hp.2 X q2 hf
  .cases h
 |buildSlice t n ps=>
  simp only[aW] at h;obtain⟨X,q2⟩:=Ut (F:=F) (β:=β) (w:=w) (ps:=ps) (ρ:=bn env (.buildSlice t n ps)) (a:=a) (fun x hx=>hR oS x (by simpa[Op.operands] using hx));cases hf:kJ (fun i=>some (i*P.cellsOf (aE P t),P.cellsOf (aE P t))) (dM n (bq P (aE P t))) (ps.toList.map fun q=>(q.1,bn env (.buildSlice t n ps) q.2)) with
  |none=>simp[hf] at h
  |some cs=>
   simp only[hf,Option.map_some,aV] at h;subst h;obtain⟨_,J,M,p4⟩:=hp;exact Z' hm (hn rfl) M J p4 X q2 hf
 |load t x=>
  have hx:=hR oS x bR;simp only[aW] at h;split at h
  .rename_i cs he;rw[he] at hx;simp only[aV] at h;subst h;exact aaI hm hx hp.1 hp.2
  .rename_i i off he;rw[he] at hx;split at h
   .rename_i cs ty hi;simp only[aV] at h;subst h;exact aaJ hm hx hi hp.1 hp.2
   .cases h
  .cases h
 |store t x y=>
  have hx:=hR oS x bR;have hy:=hR oS y bR;simp only[aW] at h;split at h
  .rename_i i off he;rw[he] at hx;split at h
   .rename_i cs ty hi;simp only[aV] at h;subst h;obtain⟨U,J,M,p4⟩:=hp;exact aco hm hx hy hi U J M p4
   .cases h
  .cases h
 |nilCheck x=>
  have hx:=hR oS x bR;simp only[aW] at h;split at h
  .rename_i cs he;rw[he] at hx;simp only[aV] at h;subst h;obtain⟨ad,h1,h2⟩:=Z7 (pre:=True) (nx:=nx) hm hx;simp only[h1] at h2 ⊢;exact h2
  .rename_i i off he;rw[he] at hx;split at h
   .rename_i r hi;simp only[aV] at h;subst h;obtain⟨ad,h1,h2⟩:=Z8 (pre:=True) (nx:=nx) (rd:=[i]) hm hx hi;simp only[h1] at h2 ⊢;exact h2
   .cases h
  .cases h
 |binOp op t x y yt=>
  have hx:=hR oS x bR;have hy:=hR oS y bR;simp only[aW] at h;split at h
  .rename_i e' O;simp only[aV] at h;subst h;unfold lX at O;split at O
   .rename_i es n he;simp only[aV] at O;subst O;rw[he] at hx;exact abg hm t x (.const (.slice none 0 0)) hx hp
   .rename_i i off he;split at O
    .rename_i r hi;simp only[aV] at O;subst O;rw[he] at hx;exact RU hm .eql t x _ hx hi hy hp (.inl ⟨rfl,rfl⟩)
    .cases O
   .rename_i i off he;split at O
    .rename_i r hi;simp only[aV] at O;subst O;rw[he] at hx;exact RU hm .neq t x _ hx hi hy hp (.inr ⟨rfl,rfl⟩)
    .cases O
   .cases O
  .unfold qO at h;split at h
   .rename_i b1 b2 C e2;rw[C] at hx;rw[e2] at hy;split at h
    .simp only[Option.map_some,aV] at h;subst h;exact Rx hm .eql t x y hx hy hp (.inl ⟨rfl,rfl⟩)
    .simp only[Option.map_some,aV] at h;subst h;exact Rx hm .neq t x y hx hy hp (.inr ⟨rfl,rfl⟩)
    .simp at h
   .rename_i v1 v2 _ C e2;rw[C] at hx;rw[e2] at hy;cases hb:oY op v1 v2 with
    |none=>simp[hb] at h
    |some q=>
     simp only[hb,Option.map_some,aV] at h;subst h;exact aeb hm op t x y hx hy hb hp
   .rename_i xs ys C e2;rw[C] at hx;rw[e2] at hy;cases hb:zF P op t xs ys with
    |none=>simp[hb] at h
    |some q=>
     simp only[hb,Option.map_some,aV] at h;subst h;exact aca hm x y hx hy hb hp
   .simp at h
 |unOp op t x=>
  have hx:=hR oS x bR;simp only[aW] at h;split at h
  .rename_i v he;rw[he] at hx;cases hb:AE op v with
   |none=>simp[hb] at h
   |some q=>
    simp only[hb,Option.map_some,aV] at h;subst h;exact af3 hm op hx hb
  .cases h
 |convert src dst x=>
  have hx:=hR oS x bR;simp only[aW] at h;split at h
  .rename_i k k' n hd he;rw[he] at hx;simp only[aV] at h;subst h;exact aaq hm src dst hx hd (Bm hp)
  .rename_i e' b hd he;rw[he] at hx;split at h
   .rename_i jP;simp only[aV] at h;subst h;exact acs hm hx hp.1 hd jP hp.2
   .cases h
  .cases h
 |makeFunc f fs cs=>
  simp only[aW,aV] at h;subst h;obtain⟨X,q2⟩:=BK (F:=F) (β:=β) (w:=w) (xs:=fs) (ρ:=bn env (.makeFunc f fs cs)) (a:=a) (fun x hx=>hR oS x (by simp[Op.operands];exact .inl hx));obtain⟨q3,q4⟩:=BK (F:=F) (β:=β) (w:=w) (xs:=cs) (ρ:=bn env (.makeFunc f fs cs)) (a:=a) (fun x hx=>hR oS x (by simp[Op.operands];exact .inr hx));have:=aar (pre:=True) (nx:=nx) hm f X q3 q2 q4;have C:(fs.toList.map a.eval).toArray=fs.map a.eval:=by apply Array.ext';simp
  have e2:(cs.toList.map a.eval).toArray=cs.map a.eval:=by apply Array.ext';simp
  rw[C,e2] at this;exact this
 |makeMap t r=>
  simp only[aW] at h;split at h
  .simp only[aV] at h;subst h;exact aaM hm (hn rfl)
  .cases h
 |makeSlice t l c=>
  have hx:=hR oS l bR;have hy:=hR oS c bR;simp only[aW] at h;split at h
  .rename_i n k C e2;rw[C] at hx;rw[e2] at hy;simp only[aV] at h;subst h;obtain⟨U,J,M,p4,p5⟩:=hp;subst J;show aU P F m nx β w _ (do Pure.pure (Next.value (<- Instr.makeSlice t (a.eval l) (a.eval c))));rw[hx.cI.1,hy.cI.1];exact aag hm (hn rfl) U M p4 p5
  .cases h
 |slice t x lo hi mx=>
  have hx:=hR oS x bR;simp only[aW] at h;exact aU.of_eq (acr hm hx (OJ fun y hy=>hR oS y (by simp[Op.operands,hy])) (OJ fun y hy=>hR oS y (by simp[Op.operands,hy])) (OJ fun y hy=>hR oS y (by simp[Op.operands,hy])) h hp)
 |fieldAddr t x k=>
  have hx:=hR oS x bR;simp only[aW] at h;split at h
  .rename_i off ft cs hf he;rw[he] at hx;simp only[aV] at h;subst h;exact Z0 hm hx hf hp
  .rename_i off ft i o hf he;rw[he] at hx;split at h
   .rename_i r hi;simp only[aV] at h;subst h;exact Z1 hm hx hi hf hp
   .cases h
  .cases h
 |field t x k=>
  have hx:=hR oS x bR;simp only[aW] at h;split at h
  .rename_i off ft cs hf he;rw[he] at hx;simp only[aV] at h;subst h;exact acq hm hx hf hp.1 hp.2
  .cases h
 |indexAddr t x i=>
  have hx:=hR oS x bR;have hy:=hR oS i bR;simp only[aW] at h;split at h
  .rename_i es n kk k C e2;rw[C] at hx;rw[e2] at hy;simp only[aV] at h;subst h;obtain⟨U,J,M,_⟩:=hp;exact Z2 hm hx hy U J M
  .rename_i j off n kk k C e2;rw[C] at hx;rw[e2] at hy;split at h
   .rename_i r hj;simp only[aV] at h;subst h;obtain⟨U,J,M⟩:=hp;exact Z3 hm hx hj hy U J M
   .cases h
  .rename_i j off kk k C e2;rw[C] at hx;rw[e2] at hy;split at h
   .rename_i r hj;simp only[aV] at h;subst h;obtain⟨U,J,M⟩:=hp;exact ZY hm hx hj hy U J M
   .cases h
  .cases h
 |index t x i=>
  have hx:=hR oS x bR;have hy:=hR oS i bR;simp only[aW] at h;split at h
  .rename_i b kk k C e2;rw[C] at hx;rw[e2] at hy;simp only[aV] at h;subst h;obtain⟨U,J,M⟩:=hp;exact aah hm hx hy U J M
  .rename_i cs kk k C e2;rw[C] at hx;rw[e2] at hy;simp only[aV] at h;subst h;obtain⟨U,J,M,p4⟩:=hp;exact aai hm hx hy U J M p4
  .cases h
 |lookup t x k ok=>exact aa6 hm (hR oS x bR) (hR oS k bR) (by simpa only[aW] using h) hp
 |mapUpdate t x k v=>exact RN hm (hR oS x bR) (hR oS k bR) (hR oS v bR) (by simpa only[aW] using h) hp
 |insert t x k v=>exact RN hm (hR oS x bR) (hR oS k bR) (hR oS v bR) (by simpa only[aW] using h) hp
 |extract x k=>
  have hx:=hR oS x bR;simp only[aW] at h;split at h
  .rename_i cs C;rw[C] at hx;simp only[aV] at h;subst h;exact aaL hm hx hp
  .cases h
 |call c=>
  simp only[aW] at h;split at h
  .rename_i b hb;split at h
   .rename_i mR;obtain⟨X,q2⟩:=BK (F:=F) (β:=β) (w:=w) (xs:=c.args) (ρ:=bn env (.call c)) (a:=a) (fun x hx=>hR oS x (by simp[Op.operands,Call.operands,hb];exact hx));have:=aak hm (b:=b) (ts:=c.argTypes) (ty:=type) (cs:=c.args.map fun | .const _=>true|_=>false) (e:=e) hn X q2 (by simpa using mR) h hp;obtain⟨n,v,w',β',h1,h2⟩:=this;refine⟨n,v,w',β',?_,h2⟩;simp only[resolve,hb,Sem.run_bind,Sem.run_pure,Result.andThen_ok,invoke];have C:(c.args.toList.map a.eval).toArray=c.args.map a.eval:=by apply Array.ext';simp
    rw[<- C];exact h1
   .cases h
  .cases h
 |_=>simp[aW] at h
end
section
variable{P:Program}{F F':Nat->Prop}{m:Mem}{nx:Nat}{β β':aJ}{w w':World}
theorem R.lift{d:D}{v:Value}(h:R F iN w d v)(hf:∀ b,¬ F b->¬ F' b/\β.free b):R F' β w d v:=
 h.gen (bM _) (fun b _ h1 _=>⟨pM.refl w b,(hf b h1).2,(hf b h1).1⟩) fun i p _ hp=>by cases hp
theorem DH{b:Nat}(h:¬ owned F β b):¬ F b/\β.free b:=by
 unfold owned at h;have h1:¬ F b:=fun e=>h (.inl e);refine⟨h1,?_⟩;by_cases hb:β.free b
 .exact hb
 .exact absurd (.inr hb) h
theorem adT(hm:aL P F m β w){b:Nat}(h:owned F β b):b<w.heap.size:=by
 rcases h with h|h
 .exact hm.fb.lt b h
 .unfold aJ.free at h;simp only[Classical.not_forall] at h;obtain⟨i,p,hp,hb⟩:=h;exact hm.lt i p b hp (Decidable.not_not.1 hb)
theorem Tg(hm:aL P F m β w):FB (owned F β) w:=hm.fb.next (fun b hb=>adT hm hb) (fun _ h=>.inl h) fun _ _ _=>rfl
theorem MP{d:D}{v:Value}(hs:d.jt=true)(h:R F β w d v):R F' β' w' d v:=by
 have bd:∀ cs:List D,(∀ d∈cs,∃ x,d=.s x)->R F β w (.bd cs) v->R F' β' w' (.bd cs) v:=fun cs hc h=>by
  obtain⟨vs,rfl,hl,hr⟩:=h.Bt;refine .bd cs vs hl fun k d u hk hu=>?_;obtain⟨x,rfl⟩:=hc d (cx hk);have:=(hr k _ u hk hu).cI;rw[this.1];exact .s x this.2
 unfold D.jt at hs;split at hs
 .rw[h.cI.1];exact .s _ h.cI.2
 .obtain⟨b,rfl⟩:=h.Ep;exact .ub b
 .exact bd _ oS h
 .exact bd _ oS h
 .exact bd _ oS h
 .cases hs
theorem Sb(h:Kept w w'):Step β w β w':=Bj h.1 h.2.1 h.2.2
theorem aL.kept(hm:aL P F m β w)(h:Kept w w'):aL P F m β w':=hm.ext h.1 h.2.1 h.2.2
theorem Sc(hm:aL P F m β w){f:FuncId}{args:List D}{r:D}{vs:Array Value}(hc:az P f args r)(hR:Rs F β w args vs):
 Calls P f vs w fun e w'=>∃ v,e=.returned v/\R F β w' r v/\aL P F m β w'/\Step β w β w':=
 (hc.2.2 (owned F β) w vs (Tg hm) ⟨hR.1,fun k d v hd hv=>hc.2.1 d (cx hd) F β w v (hR.2 k d v hd hv)⟩).mono
  fun e w' ⟨v,he,hr,hk⟩=>⟨v,he,hr.lift fun b hb=>DH hb,hm.kept hk,Sb hk⟩
theorem IU{br:List Nat}(C:∀ i∈br,∀ r,m i=some r->∃ p,β i=some p/\c7 P F β w r p/\∀ b,p.bF=some b->¬ F b):∀ {aS bs:List D},jx P br m aS bs->aS.length=bs.length/\∀ (k:Nat) (a b:D),aS[k]? =some a->bs[k]? =some b->∀ v,R F β w a v->R F iN w b v
 |[],[],_=>⟨rfl,oS⟩
 |a::aS,b::bs,h=>by
  obtain⟨h1,h2⟩:=IU C h.2;refine⟨by simp[h1],fun k x y hx hy v hv=>?_⟩;cases k with
  |zero=>
   simp at hx hy;subst hx;subst hy;exact h.1 F β w v C hv
  |succ k=>exact h2 k x y (by simpa using hx) (by simpa using hy) v hv
 |[],_::_,h=>h.elim
 |_::_,[],h=>h.elim
def Nt(r:D):Prop:=∀ (F F':Nat->Prop) (β β':aJ) (w w':World) (v:Value),R F β w r v->R F' β' w' r v
theorem aa0{r:D}(h:r.jt=true):Nt r:=fun _ _ _ _ _ _ _=>MP h
theorem Sd(hm:aL P F m β w){f:FuncId}{args J:List D}{br:List Nat}{C:Mem}{r:D}{vs:Array Value}(O:jx P br C args J)(M:∀ i∈br,C i≠none->m i=C i)(hc:az P f J r)(hs:Nt r)(hR:Rs F β w args vs):
 Calls P f vs w fun e w'=>∃ v,e=.returned v/\R F β w' r v/\aL P F m β w'/\Step β w β w':=by
 obtain⟨h1,h2⟩:=IU (P:=P) (F:=F) (β:=β) (w:=w) (fun i hi r hr=>by
  obtain⟨p,hp,aA⟩:=hm.row i r (by rw[M i hi (by simp[hr])];exact hr)
  exact⟨p,hp,aA,fun b hb=>hm.nf i p b hp hb⟩) O
 refine(hc.2.2 F w vs hm.fb ⟨by rw[hR.1,h1],fun k d v hd hv=>?_⟩).mono fun e w' ⟨v,he,hr,hk⟩=>⟨v,he,hs _ _ _ _ _ _ _ hr,hm.kept hk,Sb hk⟩
 have al:k<args.length:=by rw[h1];exact(bX.1 hd).1
 exact h2 k args[k] d (by simp[al]) hd v (hR.2 k args[k] v (by simp[al]) hv)
theorem adU(hm:aL P F m β w)(hn:β nx=none){f:FuncId}{args es:List D}{n:Nat}{t:TypeId}{vs:Array Value}(hc:nj P f args es n t)(hR:Rs F β w args vs):
 Calls P f vs w fun e w'=>∃ v β',e=.returned v/\R F β' w' (.rs nx 0 n) v/\aL P F (up m nx (some (.cells es t))) β' w'/\Step β w β' w'/\∀ i,i≠nx->β' i=β i:=by
 refine(hc.2.2 (owned F β) w vs (Tg hm) ⟨hR.1,fun k d v hd hv=>hc.2.1 d (cx hd) F β w v (hR.2 k d v hd hv)⟩).mono ?_;rintro e w' ⟨v,p,he,Nu,J,aA,hv,hk⟩;have iB:=hm.kept hk
 have hs:Step β w (up β nx (some p)) w':=by
  refine⟨hk.1,fun b hb hf=>⟨hk.2.1 b hb,fun i q hq=>?_⟩,fun i q hq=>.inl ?_,hk.2.2,fun _ r _ _=>Ht (hk.2.1 r)⟩
  .by_cases hi:i=nx
   .subst hi;rw[an] at hq;cases hq;intro e;have:=(J b e).1;omega
   .rw[aZ _ _ hi] at hq;exact hf i q hq
  .rw[aZ _ _ (fun e=>by rw[e,hn] at hq;cases hq)];exact hq
 have C:∀ i q b,up β nx (some p) i=some q->q.bF=some b->(i=nx/\q=p)\/(i≠nx/\β i=some q):=fun i q b hq _=>by
  by_cases hi:i=nx
  .subst hi;rw[an] at hq;cases hq;exact .inl ⟨rfl,rfl⟩
  .rw[aZ _ _ hi] at hq;exact .inr ⟨hi,hq⟩
 have O:∀ b,¬ (owned F β b\/p.bF=some b)->¬ F b/\aJ.free (up β nx (some p)) b:=fun b hb=>by
  have h1:=DH (F:=F) (β:=β) (b:=b) (fun e=>hb (.inl e));refine⟨h1.1,fun i q hq e=>?_⟩;rcases C i q b hq e with⟨_,rfl⟩|⟨_,jN⟩
  .exact hb (.inr e)
  .exact h1.2 i q jN e
 have Nv:c7 P F (up β nx (some p)) w' (.cells es t) p:=by
  cases aA with
  |nil _=>exact .nil _
  |cells _ _ b o room sz c h1 h2 X h4 h5=>
   refine .cells es t b o room sz c h1 h2 X h4 fun k d hd=>?_;obtain⟨u,o6,qY,qZ⟩:=h5 k d hd;exact⟨u,o6,qY.lift O,qZ⟩
 refine⟨v,up β nx (some p),he,?_,?_,hs,fun i hi=>aZ _ _ hi⟩
 .cases hv with
  |l9 _ _ _ _ h _=>rw[an] at h;cases h;exact absurd rfl Nu
  |jO _ a h=>rw[an] at h;cases h;exact .jO nx a (an _ _ _)
  |kO _ _ a b o len room sz h=>rw[an] at h;cases h;exact .kO nx 0 a b o len room sz (an _ _ _)
  |rs _ _ _ cap b o len room sz h h1 h2 X h4=>rw[an] at h;cases h;exact .rs nx 0 n cap b o len room sz (an _ _ _) h1 h2 X h4
 .refine⟨fun i r hi=>?_,fun i j q q' b hq jN e M=>?_,fun i q b hq e=>?_,fun i q b hq e=>?_,iB.fb⟩
  .by_cases U:i=nx
   .subst U;rw[an] at hi;cases hi;exact⟨p,an _ _ _,Nv⟩
   .rw[aZ _ _ U] at hi;obtain⟨q,hq,PB⟩:=hm.row i r hi;exact⟨q,by rw[aZ _ _ U];exact hq,PB.step hs fun b hb=>hk.2.1 b (hm.lt i q b hq hb)⟩
  .rcases C i q b hq e with⟨rfl,rfl⟩|⟨hi,h1⟩<;>rcases C j q' b jN M with⟨rfl,rfl⟩|⟨hj,h2⟩
   .rfl
   .have:=(J b e).1;have:=hm.lt j q' b h2 M;omega
   .have:=(J b M).1;have:=hm.lt i q b h1 e;omega
   .exact hm.inj i j q q' b h1 h2 e M
  .rcases C i q b hq e with⟨_,rfl⟩|⟨_,h1⟩
   .exact(J b e).2
   .exact iB.lt i q b h1 e
  .rcases C i q b hq e with⟨_,rfl⟩|⟨_,h1⟩
   .intro hF;have:=hm.fb.lt b hF;have:=(J b e).1;omega
   .exact hm.nf i q b h1 e
theorem RG{o:Oper}{env:Env}{a:Act}{f:FuncId}{args:List D}(M:gP F β w env a)(ha:asks env o.op)(h:ea (bn env o.op) o.op=some (f,args))(he:na P f=true):
 ∃ vs,(execOp a.eval o).run P w=.ok (.enter f vs) w/\Rs F β w args vs:=by
 obtain⟨dst,op,type,pos,after,guard⟩:=o;simp only at ha h;cases op with
 |call c=>
  simp only[ea] at h;have hR:∀ x∈(Op.call c).operands.toList,R F β w (bn env (.call c) x) (a.eval x):=fun x hx=>(M.opd x).xL _ (ha x hx);split at h
  .rename_i g hg;split at h
   .rename_i k fs cs hk;simp only[aV,cN] at h;obtain⟨rfl,rfl⟩:=h;have h1:=hR g (by simp[Op.operands,Call.operands,hg]);rw[hk] at h1;obtain⟨q1,O⟩:=BK (F:=F) (β:=β) (w:=w) (xs:=c.args) (ρ:=bn env (.call c)) (a:=a) (fun x hx=>hR x (by simp[Op.operands,Call.operands];exact .inr hx));generalize hv:a.eval g=v at h1;cases h1 with
    |fn _ _ _ us vs hl nD hh J=>
    refine⟨us.toArray++c.args.map a.eval++vs.toArray,?_,?_,?_⟩
    .unfold execOp;simp only[resolve,hg,Sem.run_bind,hv,Deferred.ofValue,Sem.run_pure,Result.andThen_ok,invoke];unfold callFunc;unfold na at he;simp only[Sem.run_bind,run_program,Result.andThen_ok];split at he
     .rename_i fn U;simp only[aB,Bool.not_eq_true'] at he
      have hb:fn.body.isNone=false:=by
       cases X:fn.body<;>simp_all
      rw[U];simp only[he.1,hb,Bool.false_eq_true,if_false,Sem.run_pure]
     .cases he
    .simp[hl,nD]
    .intro j d u hd hu;simp only[List.append_assoc] at hd;simp only[Array.append_assoc] at hu;rcases Nat.lt_or_ge j fs.length with hj|hj
     .rw[List.getElem?_append_left hj] at hd;rw[Array.getElem?_append_left (by simpa[hl] using hj)] at hu;exact hh j d u hd (by simpa using hu)
     .rw[List.getElem?_append_right hj] at hd;rw[Array.getElem?_append_right (by simpa[hl] using hj)] at hu;simp only[List.size_toArray,hl] at hu;generalize j - fs.length=j' at hd hu;rcases Nat.lt_or_ge j' (c.args.toList.map (bn env (.call c))).length with C|C
      .rw[List.getElem?_append_left C] at hd;rw[Array.getElem?_append_left (by simpa using C)] at hu;exact O j' d u hd (by simpa using hu)
      .rw[List.getElem?_append_right C] at hd;rw[Array.getElem?_append_right (by simpa using C)] at hu;exact J _ d u hd (by simpa using hu)
   .cases h
  .cases h
 |_=>simp[ea] at h
end
section
variable{P:Program}
theorem afX{o:Op}{ρ C:Operand->D}(h:∀ x∈o.operands,C x=ρ x)(m:Mem)(nx:Nat):aW P o C m nx=aW P o ρ m nx:=by
 have M:∀ ps:Array (Nat×Operand),(∀ x∈ps.map (·.2),C x=ρ x)->
  (ps.toList.map fun q=>(q.1,C q.2))=(ps.toList.map fun q=>(q.1,ρ q.2)):=fun ps hp=>
  List.map_congr_left fun p hm=>by
   obtain⟨i,x⟩:=p;simp only[hp x (Array.mem_map.2 ⟨(i,x),by simpa using hm,rfl⟩)]
 have args:∀ xs:Array Operand,(∀ x∈xs,C x=ρ x)->xs.toList.map C=xs.toList.map ρ:=fun xs hx=>
  List.map_congr_left fun x hm=>hx x (by simpa using hm)
 cases o with
 |call c=>
  simp only[aW];cases hc:c.callee with
  |builtin b=>simp only[args c.args fun x hx=>h x (by simp[Op.operands,Call.operands,hc,hx])]
  |_=>rfl
 |build t ps=>simp only[aW,M ps fun x hx=>h x (by simpa[Op.operands] using hx)]
 |buildSlice t n ps=>simp only[aW,M ps fun x hx=>h x (by simpa[Op.operands] using hx)]
 |makeFunc f fs cs=>simp only[aW,args fs fun x hx=>h x (by simp[Op.operands,hx]),args cs fun x hx=>h x (by simp[Op.operands,hx])]
 |slice t x lo hi J=>
  have O:lo.map C=lo.map ρ:=by cases lo<;>simp_all[Op.operands]
  have e2:hi.map C=hi.map ρ:=by cases hi<;>simp_all[Op.operands]
  have e3:J.map C=J.map ρ:=by cases J<;>simp_all[Op.operands]
  simp only[aW,O,e2,e3,h x bR]
 |makeMap t r=>cases r<;>simp_all[aW,Op.operands]
 |_=>first|rfl|(simp only[Op.operands] at h;simp only[aW];simp_all)
theorem DN{o:Op}{ρ C:Operand->D}(h:∀ x∈o.operands,C x=ρ x):ea C o=ea ρ o:=by
 cases o with
 |call c=>
  simp only[ea];cases hc:c.callee with
  |value f=>
   have J:c.args.toList.map C=c.args.toList.map ρ:=List.map_congr_left fun x hm=>h x (by simp[Op.operands,Call.operands,hc];exact .inr (by simpa using hm));have e2:C f=ρ f:=h f (by simp[Op.operands,Call.operands,hc]);simp only[J,e2]
  |_=>rfl
 |_=>rfl
theorem Uh{env env':Env}{x:Operand}(h:∀ t,x=.tmp t->env' t=env t):opd env' x=opd env x:=by
 cases x<;>simp_all[opd]
theorem zz{env env':Env}{o:Op}(h:∀ t,Operand.tmp t∈o.operands->env' t=env t):∀ x∈o.operands,bn env' o x=bn env o x:=fun x hx=>by
 have:=Uh (env:=env) (env':=env') (x:=x) fun t ht=>h t (ht▸hx);unfold bn;cases o<;>simp[this]
theorem zv{env env':Env}{o:Op}(h:∀ t,Operand.tmp t∈o.operands->env' t=env t):asks env' o=asks env o:=by
 have hh:∀ x∈o.operands,opd env' x=opd env x:=fun x hx=>Uh fun t ht=>h t (ht▸hx)
 have hl:(∀ x∈o.operands.toList,(opd env' x).ask)=(∀ x∈o.operands.toList,(opd env x).ask):=by
  apply propext;constructor
  .intro hq x hx;rw[<- hh x (by simpa using hx)];exact hq x hx
  .intro hq x hx;rw[hh x (by simpa using hx)];exact hq x hx
 unfold asks;split
 .rw[hh _ bR]
 .exact hl
theorem Ra{m m':Mem}{sz:Nat}{d:D}{p:Prop}{rd:List Nat}{n:Nat}{cs:List D}(h:jC m sz d=some (p,rd,n,cs))(hr:∀ i∈rd,m' i=m i):jC m' sz d=some (p,rd,n,cs):=by
 unfold jC at*
 split at h
 .simpa using h
 .simpa using h
 .rename_i i off n';split at h
  .rename_i cs' e hm;simp only[aV,cN] at h;obtain⟨rfl,rfl,rfl,rfl⟩:=h;rw[hr i oS,hm]
  .cases h
 .cases h
theorem aaB{m m':Mem}{t:TypeId}{x k:D}{ok:Bool}{e:dJ}(h:oD P m t x k ok=some e)(hr:∀ i∈e.rd,m' i=m i):oD P m' t x k ok=some e:=by
 unfold oD at*
 split at h
 .split at h
  .rename_i hm;cases h;rw[hr _ oS,hm]
  .cases h
 .exact h
 .exact h
 .cases h
theorem Rt{m m':Mem}{t:TypeId}{x k v:D}{e:dJ}(h:oE P m t x k v=some e)(hr:∀ i∈e.rd,m' i=m i):oE P m' t x k v=some e:=by
 unfold oE at*
 split at h
 .split at h
  .rename_i hm;cases h;rw[hr _ oS,hm]
  .cases h
 .cases h
theorem aaC{m m':Mem}{t:TypeId}{x k:D}{e:dJ}(h:vL P m t x k=some e)(hr:∀ i∈e.rd,m' i=m i):vL P m' t x k=some e:=by
 unfold vL at*
 split at h
 .split at h
  .rename_i hm;cases h;rw[hr _ oS,hm]
  .cases h
 .cases h
theorem afY{o:Op}{ρ:Operand->D}{m m':Mem}{nx:Nat}{e:dJ}(h:aW P o ρ m nx=some e)(hr:∀ i∈e.rd,m' i=m i):aW P o ρ m' nx=some e:=by
 cases o with
 |call c=>
  simp only[aW] at h ⊢;split at h
  .rename_i b hb;split at h
   .rename_i O;rw[if_pos O];unfold fh at h ⊢;split at h
    .unfold mJ at h ⊢;split at h<;>try exact h
     split at h
     .rename_i hm;cases h;rw[hr _ oS,hm]
     .cases h
    .split at h
     .unfold rN at h ⊢;simp only at h ⊢;split at h
      .cases h
      .rename_i hc;split at h
       .cases h;rw[Ra hc hr];simp_all
       .split at h
        .rename_i hm;cases h;rw[Ra hc fun i hi=>hr i (by simp[hi])];rw[hr _ oS,hm];simp_all
        .cases h
       .cases h
     .cases h
    .exact h
    .split at h
     .rename_i hm;cases h;rw[hr _ oS,hm]
     .cases h
    .exact aaC h hr
    .cases h
   .cases h
  .cases h
 |lookup t x k ok=>exact aaB h hr
 |mapUpdate t x k v=>exact Rt h hr
 |insert t x k v=>exact Rt h hr
 |slice t x lo hi U=>
  simp only[aW] at h ⊢;unfold mz at h ⊢;split at h
  .exact h
  .split at h
   .rename_i hm;split at h
    .cases h;rw[hr _ oS,hm]
    .cases h
   .cases h
  .exact h
  .cases h
 |binOp op t x y _=>
  simp only[aW] at h ⊢;split at h
  .rename_i M he;simp only[aV] at h;subst h
   have:lX P m' op t (ρ x) y=some M:=by
    unfold lX at he ⊢;split at he
    .exact he
    .split at he
     .rename_i hm;cases he;rw[hr _ oS,hm]
     .cases he
    .split at he
     .rename_i hm;cases he;rw[hr _ oS,hm]
     .cases he
    .cases he
   rw[this]
  .rename_i he;by_cases J:∃ i off,ρ x=.rp i off
   .obtain⟨i,off,C⟩:=J;rw[C] at h;simp[qO] at h
   .have:lX P m' op t (ρ x) y=none:=by
     unfold lX at he ⊢;split at he
     .cases he
     .rename_i i off C;exact absurd ⟨_,_,C⟩ J
     .rename_i i off C;exact absurd ⟨_,_,C⟩ J
     .simp_all
    rw[this];exact h
 |_=>
  first
  |exact h
  |(simp only[aW] at h ⊢
    repeat' split at h
    all_goals first
     |(cases h;done)
     |exact h
     |(cases h;simp_all;done)
     |(simp_all;done))
end
end Go.Abs
namespace Go.Abs
open Go.ChangeShapes Go.WideShapes
inductive Sh
 |int (k:IntKind)
 |bool
 |str
 |sl (s:Sh)
 |unit
 |pair (a b:Sh)
def Sh.val:Sh->Type
 | .int _=>Int
 | .bool=>Bool
 | .str=>ByteArray
 | .sl s=>List s.val
 | .unit=>Unit
 | .pair a b=>a.val×b.val
def Sh.size:Sh->Nat
 | .unit=>0
 | .pair a b=>a.size+b.size
 |_=>1
def Sh.enc:(s:Sh)->s.val->List D
 | .int k,n=>[.s (.int k n)]
 | .bool,b=>[.s (.bool b)]
 | .str,b=>[.s (.string b)]
 | .sl s,l=>[.sl (List.flatMap s.enc l) (List.length l)]
 | .unit,_=>[]
 | .pair a b,x=>a.enc x.1++b.enc x.2
def Sh.tY:Sh->Bool
 | .int .u64=>false
 | .sl s=>s.tY
 | .pair a b=>a.tY&&b.tY
 |_=>true
def Sh.arg:(s:Sh)->s.val->D
 | .int k,n=>.s (.int k n)
 | .bool,b=>.s (.bool b)
 | .str,b=>.s (.string b)
 | .sl s,l=>.sl (List.flatMap s.enc l) (List.length l)
 | .unit,_=>.agg []
 | .pair a b,x=>.agg (a.enc x.1++b.enc x.2)
def Sh.ok:(s:Sh)->s.val->Prop
 | .int k,n=>(Lit.int k n).wf=true
 | .bool,_=>True
 | .str,b=>ByteArray.size b<=maxLen
 | .sl s,l=>∀ x:s.val,List.Mem x l->s.ok x
 | .unit,_=>True
 | .pair a b,x=>a.ok x.1/\b.ok x.2
theorem Sh.DM:∀ (s:Sh) (x:s.val),(s.enc x).length=s.size
 | .int _,_ | .bool,_ | .str,_ | .sl _,_ | .unit,_=>rfl
 | .pair a b,x=>by simp[Sh.enc,Sh.size,Sh.DM a,Sh.DM b]
section
variable(P:Program)
def yS(C:TypeId->Option Sh):Nat->List Field->Option Sh
 |_,[]=>some .unit
 |off,f::fs=>if f.offset=off then match C f.type,yS C (off+P.cellsOf f.type) fs with
  |some a,some b=>some (.pair a b)
  |_,_=>none
  else none
def vD:Nat->TypeId->Option Sh
 |0,_=>none
 |n+1,t=>match P.underlying t with
  |some .bool=>if P.cellsOf t=1 then some .bool else none
  |some (.int k)=>if P.cellsOf t=1 then some (.int k) else none
  |some .string=>if P.cellsOf t=1 then some .str else none
  |some (.slice e)=>if P.cellsOf t=1/\0<P.cellsOf e then(vD n e).map .sl else none
  |some (.struct fs)=>match yS P (vD n) 0 fs.toList with
   |some s=>if s.size=P.cellsOf t then some s else none
   |none=>none
  |_=>none
end
section
variable{P:Program}{H:Type}{ec:TypeId×Value->H}{w:World}{base:Nat}{spare:Nat->Bool}{held:Bool}{F:Nat->Prop}
def Holds(F:Nat->Prop)(w:World)(ds:List D)(cs:List Value):Prop:=ds.length=cs.length/\∀ (k:Nat) (d:D) (u:Value),ds[k]? =some d->cs[k]? =some u->R F iN w d u/\u.oneCell'=true
theorem Holds.app{ds C:List D}{cs cs':List Value}(h:Holds F w ds cs)(h':Holds F w C cs'):Holds F w (ds++C) (cs++cs'):=by
 refine⟨by simp[h.1,h'.1],fun k d u hd hu=>?_⟩;by_cases hk:k<ds.length
 .rw[List.getElem?_append_left hk] at hd;rw[List.getElem?_append_left (by have:=h.1;omega)] at hu;exact h.2 k d u hd hu
 .rw[List.getElem?_append_right oG] at hd;rw[List.getElem?_append_right (by have:=h.1;omega), <- h.1] at hu;exact h'.2 (k - ds.length) d u hd hu
theorem Holds.one{d:D}{u:Value}(h:R F iN w d u)(h':u.oneCell'=true):Holds F w [d] [u]:=⟨rfl,fun k d' C hd hu=>by
 cases k with
 |zero=>simp at hd hu;subst hd hu;exact⟨h,h'⟩
 |succ k=>simp at hd⟩
theorem Holds.nil:Holds F w [] []:=⟨rfl,oS⟩
theorem T5{C:TypeId->Option Sh}{off:Nat}{s:Sh}(h:yS P C off []=some s):s=.unit:=by
 simp only[yS,aV] at h;exact h.symm
theorem Tc{C:TypeId->Option Sh}{off:Nat}{f:Field}{fs:List Field}{s:Sh}(h:yS P C off (f::fs)=some s):
 f.offset=off/\∃ a b,C f.type=some a/\yS P C (off+P.cellsOf f.type) fs=some b/\s=.pair a b:=by
 simp only[yS] at h;split at h
 .rename_i J;split at h
  .rename_i a b ha hb;simp only[aV] at h;exact⟨J,a,b,ha,hb,h.symm⟩
  .cases h
 .cases h
theorem Hs:∀ (n:Nat) (t:TypeId) (s:Sh),vD P n t=some s->s.size=P.cellsOf t
 |0,_,_,h=>by cases h
 |n+1,t,s,h=>by
  unfold vD at h;split at h
  .split at h
   .rename_i h1;simp only[aV] at h;subst h;exact h1.symm
   .cases h
  .split at h
   .rename_i h1;simp only[aV] at h;subst h;exact h1.symm
   .cases h
  .split at h
   .rename_i h1;simp only[aV] at h;subst h;exact h1.symm
   .cases h
  .split at h
   .rename_i h1;simp only[dI] at h;obtain⟨a,_,rfl⟩:=h;exact h1.1.symm
   .cases h
  .split at h
   .split at h
    .rename_i h1;simp only[aV] at h;subst h;exact h1
    .cases h
   .cases h
  .cases h
def Reads(P:Program)(F:Nat->Prop)(w:World)(C:TypeId->Option Sh)(rd:TypeId->List Value->Option (DataW H×List MemPlace)):Prop:=
 ∀ t s cs x,C t=some s->s.tY=true->cs.length=P.cellsOf t->rd t cs=some x->∃ v:s.val,s.ok v/\Holds F w (s.enc v) cs
theorem Nr:∀ (s:Sh) (x:s.val),s.tY=true->∀ d∈s.enc x,∀ n:Int,¬ R F iN w d (.int .u64 n)
 | .int k,x,h,d,hd,n,hr=>by
  simp only[Sh.enc,List.mem_singleton] at hd;subst hd;cases hr;cases h
 | .bool,x,h,d,hd,n,hr=>by
  simp only[Sh.enc,List.mem_singleton] at hd;subst hd;cases hr
 | .str,x,h,d,hd,n,hr=>by
  simp only[Sh.enc,List.mem_singleton] at hd;subst hd;cases hr
 | .sl s,x,h,d,hd,n,hr=>by
  simp only[Sh.enc,List.mem_singleton] at hd;generalize List.flatMap s.enc x=es at hd;generalize List.length x=k at hd;subst hd;cases hr
 | .unit,x,h,d,hd,n,hr=>by simp[Sh.enc] at hd
 | .pair a b,x,h,d,hd,n,hr=>by
  simp only[Sh.tY,aB] at h;simp only[Sh.enc,List.mem_append] at hd;rcases hd with hd|hd
  .exact Nr a x.1 h.1 d hd n hr
  .exact Nr b x.2 h.2 d hd n hr
def EU(F:Nat->Prop)(w:World):Prop:=∀ b o u,F b->w.cell? ⟨b,o,none⟩=some u->∃ n,u=.int .u64 n
theorem T6{J:TypeId->Option Sh}{rd:TypeId->List Value->Option (DataW H×List MemPlace)}(hz:∀ t s,J t=some s->s.size=P.cellsOf t)(h:Reads P F w J rd){cs:List Value}:∀ (fs:List Field) (off:Nat) (s:Sh),yS P J off fs=some s->s.tY=true->off+s.size<=cs.length->
 (∀ f∈fs,∃ x,rd f.type ((cs.drop f.offset).take (P.cellsOf f.type))=some x)->∃ v:s.val,s.ok v/\Holds F w (s.enc v) ((cs.drop off).take s.size)
 |[],off,s,hs,_,_,_=>by
  obtain rfl:=T5 hs;exact⟨(),trivial,by simp[Sh.enc,Sh.size,Holds]⟩
 |f::fs,off,s,hs,hn,hl,hr=>by
  obtain⟨X,a,b,ha,hb,rfl⟩:=Tc hs;simp only[Sh.tY,aB] at hn;obtain⟨x,hx⟩:=hr f oS;have nD:off+(a.size+b.size)<=cs.length:=hl;have bS:=hz _ _ ha;rw[X] at hx;obtain⟨v,U,hv⟩:=h f.type a _ x ha hn.1 (by simp only[List.length_take,List.length_drop];omega) hx;rw[<- bS] at hb hv;obtain⟨M,C,O⟩:=T6 hz h fs (off+a.size) b hb hn.2 oG fun g hg=>hr g (by simp[hg]);refine⟨(v,M),⟨U,C⟩,?_⟩;have:=hv.app O;show Holds F w (a.enc v++b.enc M) ((cs.drop off).take (a.size+b.size));rw[List.take_add,List.drop_drop];exact this
theorem LM{a:Addr}{n:Nat}{cs:List Value}(h:w.cells? base a n=some cs):cs.length=n/\∀ k,k<n->w.cell? (a.add k)=cs[k]? /\k<cs.length:=by
 unfold World.cells? at h;split at h
 .have hl:cs.length=n:=by simpa using mapM_some_length h
  exact⟨hl,fun k hk=>⟨mapM_some_get h k k (by simp[hk]),oG⟩⟩
 .cases h
theorem RE{α β:Type}{p:Nat->α->β->Prop}:∀ (n:Nat) (l:Nat->α),(∀ i,i<n->∃ y,p i (l i) y)->∃ ys:List β,ys.length=n/\∀ i (h:i<n) y,ys[i]? =some y->p i (l i) y
 |0,_,_=>⟨[],rfl,fun i h=>by omega⟩
 |n+1,l,h=>by
  obtain⟨ys,h1,h2⟩:=RE n l fun i hi=>h i oG;obtain⟨y,hy⟩:=h n oG;refine⟨ys++[y],by simp[h1],fun i hi z hz=>?_⟩;by_cases C:i<n
  .rw[List.getElem?_append_left oG] at hz;exact h2 i C z hz
  .have:i=n:=by omega
   subst this;rw[List.getElem?_append_right oG] at hz;simp[h1] at hz;subst hz;exact hy
theorem Mg{α:Type}{f:α->List D}{sz:Nat}(hs:∀ x,(f x).length=sz):∀ (l:List α) (i j:Nat),j<sz->(l.flatMap f)[i*sz+j]? =(l[i]?).bind fun x=>(f x)[j]?
 |[],i,j,_=>by simp
 |x::l,0,j,h=>by simp[List.getElem?_append_left (show j<(f x).length by rw[hs];exact h)]
 |x::l,i+1,j,h=>by
  rw[List.flatMap_cons,List.getElem?_append_right (by rw[hs,Nat.add_mul];omega)];have:(i+1)*sz+j - (f x).length=i*sz+j:=by rw[hs,Nat.add_mul];omega
  rw[this,Mg hs l i j h];simp
theorem MM(hF:EU F w):∀ (gQ n:Nat),Reads P F w (vD P n) (DataW.trod ec P w base spare held gQ)
 |gQ,0,t,s,cs,x,h,_,_,_=>by cases h
 |gQ,n+1,t,s,cs,x,h,tZ,hl,hr=>by
  have bS:=Hs _ _ _ h;unfold vD at h;split at h
  .rename_i ht;split at h
   .simp only[aV] at h;subst h;obtain⟨b,rfl,_⟩:=DataW.trod_bool ht hr;exact⟨b,trivial,.one (.s _ rfl) rfl⟩
   .cases h
  .rename_i k ht;split at h
   .simp only[aV] at h;subst h;obtain⟨b,rfl,_,hw⟩:=DataW.trod_int ht hr;exact⟨b,hw,.one (.s _ rfl) rfl⟩
   .cases h
  .rename_i ht;split at h
   .simp only[aV] at h;subst h;obtain⟨b,rfl,_,hw⟩:=DataW.trod_string ht hr;exact⟨b,hw,.one (.s _ rfl) rfl⟩
   .cases h
  .rename_i e ht;split at h
   .rename_i hc;simp only[dI] at h;obtain⟨a,ha,rfl⟩:=h;have haz:=Hs _ _ _ ha;rcases DataW.trod_slice ht hr with⟨rfl,_⟩|⟨ad,len,cap,Xz,rest,M,rfl,rfl,_,hb,hlc,hm,hlen,Gq,_,_⟩
    .exact⟨([]:List a.val),(fun x h=>nomatch h),.one (by exact .jy none 0) rfl⟩
    .have YE:∀ i,i<len->∃ C:List Value,w.cells? base (ad.add (i*P.cellsOf e)) (P.cellsOf e)=some C/\∃ y,DataW.trod ec P w base spare held M e C=some y:=fun i hi=>by
      have:=Gq i hi;have hg:Xz[i]? =some Xz[i]:=by simp[hlen,hi]
      rw[hg,Option.bind_eq_some_iff] at this;obtain⟨C,h1,h2⟩:=this;exact⟨C,h1,_,h2⟩
     have Fx:∀ i,i<len->∃ v:a.val,a.ok v/\∃ C,w.cells? base (ad.add (i*P.cellsOf e)) (P.cellsOf e)=some C/\Holds F w (a.enc v) C:=fun i hi=>by
      obtain⟨C,h1,y,h2⟩:=YE i hi;obtain⟨v,X,hv⟩:=MM hF M n e a C y ha tZ (LM h1).1 h2;exact⟨v,X,C,h1,hv⟩
     obtain⟨vs,sj,Ke⟩:=RE (p:=fun(i:Nat) (_:Nat) (v:a.val)=>a.ok v/\∃ C,w.cells? base (ad.add (i*P.cellsOf e)) (P.cellsOf e)=some C/\Holds F w (a.enc v) C) len (fun i=>i) Fx
     have aor:∀ x:a.val,x∈vs->a.ok x:=fun x hm=>by
      obtain⟨i,hx⟩:=dR hm;exact(Ke i (by have:=(bX.1 hx).1;omega) x hx).1
     cases len with
     |zero=>
      have:vs=[]:=List.length_eq_zero_iff.1 sj;subst this;exact⟨([]:List a.val),(fun x h=>nomatch h),.one (by exact .jy _ cap) rfl⟩
     |succ l=>
      obtain⟨C,h0,_⟩:=YE 0 oG;have U:=(LM h0).2 0 hc.2;simp only[Nat.zero_mul,Addr.add,if_true] at U;obtain⟨b,o,sp⟩:=ad;have I0:∃ u,w.cell? ⟨b,o,sp⟩=some u:=⟨C[0],by rw[U.1];simp[U.2]⟩
      obtain⟨u0,J⟩:=I0;unfold World.cell? at J
      have ra:b<w.heap.size:=by
       cases hh:w.heap[b]? with
       |none=>rw[hh] at J;cases J
       |some x=>exact(Array.getElem?_eq_some_iff.1 hh).1
      have rG:sp=none:=by
       cases sp with
       |none=>rfl
       |some q=>
        simp only at J;split at J
        .simp at J
        .cases J
      subst rG
      have aos:∀ i j,((⟨b,o,none⟩:Addr).add i).add j=⟨b,o+(i+j),none⟩:=fun i j=>by
       unfold Addr.add;split<;>split<;>simp_all;omega
      have hk:∀ k d,(vs.flatMap a.enc)[k]? =some d->∃ u,w.cell? ⟨b,o+k,none⟩=some u/\R F iN w d u/\u.oneCell'=true:=fun k d hd=>by
       have O:0<a.size:=by omega
       have FJ:k / a.size*a.size+k % a.size=k:=by rw[Nat.mul_comm];exact Nat.div_add_mod k a.size
       have F7:=Nat.mod_lt k O;rw[<- FJ,Mg a.DM _ _ _ F7,Option.bind_eq_some_iff] at hd;obtain⟨x,hx,hd⟩:=hd
       have hi:k / a.size<l+1:=by
        have:=(bX.1 hx).1;omega
       obtain⟨_,C,hci,hho⟩:=Ke _ hi x hx;obtain⟨h1,h2⟩:=(LM hci).2 (k % a.size) oG;rw[aos, <- haz,FJ] at h1;refine⟨C[k % a.size],by rw[h1];simp[h2],hho.2 _ d _ hd (by simp[h2])⟩
      have xg:¬ F b:=fun hb=>by
       obtain⟨x0,hx0⟩:∃ x0,vs[0]? =some x0:=⟨_,bc (show 0<vs.length by omega)⟩
       have O:0<a.size:=by omega
       obtain⟨d0,kV⟩:∃ d0,(vs.flatMap a.enc)[0]? =some d0:=by
        have:=Mg a.DM vs 0 0 O;rw[Nat.zero_mul,Nat.zero_add,hx0] at this;rw[this];exact⟨_,bc (by rw[a.DM];exact O)⟩
       obtain⟨u,h1,h2,_⟩:=hk 0 d0 kV;obtain⟨q,rfl⟩:=hF _ _ _ hb h1;obtain⟨x1,GA,dc⟩:=List.mem_flatMap.1 (cx kV);exact Nr a x1 tZ d0 dc q h2
      refine⟨vs,fun x h=>aor x h,.one (by
       have F6:(List.length vs)=l+1:=sj;show R _ _ _ (.sl (List.flatMap a.enc vs) (List.length vs)) _;rw[F6];refine .sl _ _ b o cap (fun k=>(w.cell? ⟨b,o+k,none⟩).getD undef) xg (fun _ _ h=>by cases h) ra hlc hm (fun k oe=>?_) fun k d hd=>?_
       .obtain⟨u,h1,_,h3⟩:=hk k _ (bc oe);simp[h1,h3]
       .obtain⟨u,h1,h2,_⟩:=hk k d hd
        simpa[h1] using h2) rfl⟩
   .cases h
  .rename_i fs ht;obtain⟨xs,M,rfl,_,_,JT,tD⟩:=DataW.trod_struct ht hr;split at h
   .rename_i s' eY;split at h
    .rename_i hs;simp only[aV] at h;subst h
     obtain⟨v,X,hv⟩:=T6 (P:=P) (w:=w) (fun t s=>Hs n t s) (MM hF M n) (cs:=cs) fs.toList 0 s' eY tZ oG fun f hf=>by
      obtain⟨i,hi,rfl⟩:=Array.getElem_of_mem (Array.mem_toList_iff.1 hf);have:=tD i fs[i] (by simp[hi]);exact⟨xs[i],by rw[this];simp[JT,hi]⟩
     refine⟨v,X,?_⟩;rw[List.drop_zero,cO oG] at hv;exact hv
    .cases h
   .cases h
  .cases h
theorem al1(X:EU F w){r:Reach}{b0:Nat}{t:TypeId}{v:Value}{d:DataW H}{ps:List MemPlace}{n:Nat}{s:Sh}(hs:vD P n t=some s)(tZ:s.tY=true)(hv:Value.okWide P w r b0 t v)(hd:DataW.Trod ec P w base spare held t v d ps):
 ∃ x:s.val,s.ok x/\R F iN w (s.arg x) v:=by
 cases n with
 |zero=>cases hs
 |succ n=>
  obtain⟨gQ,hf⟩:=hd;have hz:=Hs _ _ _ hs;have key:v.cells.toList.length=P.cellsOf t->∃ x:s.val,s.ok x/\Holds F w (s.enc x) v.cells.toList:=fun hl=>MM X gQ (n+1) t s _ _ hs tZ hl hf;unfold vD at hs;split at hs
  .rename_i ht;obtain⟨b,rfl⟩:=okWide_bool ht hv;split at hs
   .simp only[aV] at hs;subst hs;exact⟨b,trivial,.s _ rfl⟩
   .cases hs
  .rename_i k ht;obtain⟨b,rfl⟩:=okWide_int ht hv;split at hs
   .simp only[aV] at hs;subst hs;obtain⟨c,hc,_,J⟩:=DataW.trod_int ht hf;simp[Value.cells] at hc;subst hc;exact⟨b,J,.s _ rfl⟩
   .cases hs
  .rename_i ht;obtain⟨b,rfl⟩:=okWide_string ht hv;split at hs
   .simp only[aV] at hs;subst hs;obtain⟨c,hc,_,J⟩:=DataW.trod_string ht hf;simp[Value.cells] at hc;subst hc;exact⟨b,J,.s _ rfl⟩
   .cases hs
  .rename_i e ht;obtain⟨a,len,cap,rfl⟩:=okWide_slice ht hv;split at hs
   .rename_i h1;simp only[dI] at hs;obtain⟨q,_,rfl⟩:=hs;obtain⟨x,M,hx⟩:=key h1.1.symm;exact⟨x,M,(hx.2 0 _ _ rfl rfl).1⟩
   .cases hs
  .rename_i fs ht;obtain⟨cs,rfl,bS⟩:=okWide_struct ht hv;obtain⟨x,M,hx⟩:=key (by simpa[Value.cells] using bS);refine⟨x,M,?_⟩
   have ha:s.arg x=.agg (s.enc x):=by
    split at hs
    .rename_i s' C;split at hs
     .simp only[aV] at hs;subst hs;cases O:fs.toList with
      |nil=>
       rw[O] at C;obtain rfl:=T5 C;rfl
      |cons f U=>
       rw[O] at C;obtain⟨_,a,b,_,_,rfl⟩:=Tc C;rfl
     .cases hs
    .cases hs
   rw[ha];have:=hx.1;simp only[Value.cells] at this hx;have e:cs=cs.toList.toArray:=by simp
   rw[e];exact .agg _ cs.toList this.symm fun k d v h1 h2=>(hx.2 k d v h1 h2).1
  .cases hs
theorem Mh{α β:Type}(f:α->β):∀ l:List α,(l.flatMap fun x=>[f x])=l.map f
 |[]=>rfl
 |x::l=>by rw[List.flatMap_cons,Mh f l];rfl
theorem R9{α β γ:Type}{f:α->List γ}{g:β->List γ}{h:α->β}(he:∀ x,f x=g (h x)):∀ l:List α,l.flatMap f=(l.map h).flatMap g
 |[]=>rfl
 |x::l=>by rw[List.flatMap_cons,List.map_cons,List.flatMap_cons,he,R9 he l]
end
end Go.Abs
namespace Go.Abs
abbrev Fe(r:Option Nat):Fence:={ fn:=fun _=>True,depth:=none,alive:=false,round:=r }
theorem Hg{r:Option Nat}{n:Nat}{P:Program}{f:FuncId}{args:Array Value}{w:World}{R:Ending->World->Prop}(h:Calls P f args w R):CallsIn (Fe r) n P f args w R:=
 (callsIn_wide.2 h:CallsIn Fence.wide n P f args w R)
def mC(r:Option Nat)(n:Nat)(P:Program)(ops:Array Oper)(QX:Exit->Act->World->Prop)(o:Oper)(K:Act->World->Prop)(a:Act)(w:World):Prop:=
 if Region.wanted o (yielded ops a.tmps) then o.wpIn (Fe r) n P a w K QX else(∀ f,o.about P w a.eval=some f->(Fe r).fn f)/\K (a.put o.dst undef) w
section
variable{P:Program}{ops:Array Oper}
theorem GG{r:Option Nat}{n:Nat}{QX:Exit->Act->World->Prop}{i:Nat}{o:Oper}(hi:ops[i]? =some o){K:Act->World->Prop}{a:Act}{w:World}(h:mC r n P ops QX o K a w):
 wpOpIn (Fe r) n P ops QX i K a w:=by
 unfold wpOpIn;simp only[hi];exact h
structure bL where
 val:D
 a7:List (Nat×Option Row):=[]
 rd:List Nat:=[]
 new:Nat:=0
def bL.wr(p:bL):List Nat:=p.a7.map (·.1)
def bL.Ok(P:Program)(ops:Array Oper)(o:Oper)(st:St)(p:bL):Prop:=
 ∀ (F:Nat->Prop) (β:aJ) (w:World) (a:Act) (m:Mem) (env:Env) (N:Nat),(∀ t∈o.looksAt ops,env t=st.env t)->gP F β w env a->aL P F m β w->
  (∀ i∈p.rd,st.mem i≠none->m i=st.mem i)->(∀ i,st.nx<=i->i<st.nx+p.new->β i=none)->(∀ i,N<=i->β i=none)->
  ∀ (r:Option Nat) (n:Nat) (QX:Exit->Act->World->Prop) (K:Act->World->Prop),
   (∀ v w' β',R F β' w' p.val v->aL P F (cQ m p.a7) β' w'->Step β w β' w'->(∀ i,β i=none->(i<st.nx\/st.nx+p.new<=i)->β' i=none)->K (a.put o.dst v) w')->
   mC r n P ops QX o K a w
structure bL.n3(p:bL)(k:Nat)(st:St):Prop where
 wr:∀ i∈p.wr,st.mem i≠none\/(st.nx<=i/\i<st.nx+p.new)
 k0:k=0->p.rd=[]/\p.a7=[]
 k1:k=1->p.a7=[]
 k3:k=3->p.rd=[]/\∀ i∈p.wr,st.nx<=i
theorem BR{r:Option Nat}{o:Oper}(h:∀ c,o.op≠ .defer c)(ρ:Operand->Value):o.semAt r ρ=execOp ρ o:=Oper.semAt_eq r ρ o h
theorem af5{F:Nat->Prop}{β:aJ}{w:World}{env:Env}{a:Act}(O:gP F β w env a){j t:Nat}{b c:Bool}(ht:(ops[j]?).bind (·.dst)=some t)(hc:lA (env t) b=some c):
 (yielded ops a.tmps j==some b)=c:=by
 have h:=O t
 have hy:yielded ops a.tmps j=match a.tmps[t]? with|some (.bool b)=>some b|_=>none:=by
  unfold yielded;rw[ht];rfl
 have hq:∀ x:Value,a.tmps.getD t undef=x->x≠undef->a.tmps[t]? =some x:=fun x hx J=>by
  simp only[Array.getD_eq_getD_getElem?] at hx;cases hg:a.tmps[t]? with
  |none=>rw[hg] at hx;exact absurd hx.symm J
  |some y=>rw[hg] at hx;simpa using hx
 have hf:∀ {d:D},R F β w (.cS false d) (a.tmps.getD t undef)->c=false->(yielded ops a.tmps j==some b)=c:=fun {d} h C=>by
  generalize hv:a.tmps.getD t undef=v at h;cases h with
  |cS _ _ _ h1 h2=>
   have:=h2 rfl;rw[hy,C];simp only[Array.getD_eq_getD_getElem?] at hv;cases hg:a.tmps[t]? with
   |none=>simp
   |some y=>
    rw[hg] at hv;simp only[Option.getD_some] at hv;rw[hv,this];simp[undef]
 unfold lA at hc;split at hc
 .rename_i g U e;rw[e] at h;have:=h.cI.1;rw[hy,hq _ this (by simp[undef])];simpa using hc
 .rename_i _ M d e;rw[e] at h;cases M with
  |false=>
   refine hf h ?_;split at hc<;>simpa using hc.symm
  |true=>
   split at hc
   .generalize hv:a.tmps.getD t undef=v at h;cases h with
    |cS _ _ _ h1 h2=>
     have:=(h1 rfl).cI.1;rw[hy,hq _ (hv.trans this) (by simp[undef])];simpa using hc
   .simp at hc
 .cases hc
end
section
variable{P:Program}{ops:Array Oper}{o:Oper}{st:St}
theorem aal{m:Mem}{sz:Nat}{d:D}{p:Prop}{rd:List Nat}{n:Nat}{cs:List D}(h:jC m sz d=some (p,rd,n,cs)):∀ i∈rd,m i≠none:=by
 unfold jC at h;split at h
 .cases h;simp
 .cases h;simp
 .split at h
  .rename_i hm;cases h;simp[hm]
  .cases h
 .cases h
theorem Rj{m:Mem}{t:TypeId}{x k:D}{ok:Bool}{e:dJ}(h:oD P m t x k ok=some e):e.a7=[]/\e.new=0/\∀ i∈e.rd,m i≠none:=by
 unfold oD at h;split at h
 .split at h
  .rename_i hm;cases h;simp[hm]
  .cases h
 .cases h;simp
 .cases h;simp
 .cases h
theorem GH{m:Mem}{t:TypeId}{x k v:D}{e:dJ}(h:oE P m t x k v=some e):(∀ i∈e.a7.map (·.1),m i≠none)/\∀ i∈e.rd,m i≠none:=by
 unfold oE at h;split at h
 .split at h
  .rename_i hm;cases h;simp[hm]
  .cases h
 .cases h
theorem Rk{m:Mem}{t:TypeId}{x k:D}{e:dJ}(h:vL P m t x k=some e):(∀ i∈e.a7.map (·.1),m i≠none)/\∀ i∈e.rd,m i≠none:=by
 unfold vL at h;split at h
 .split at h
  .rename_i hm;cases h;simp[hm]
  .cases h
 .cases h
theorem LV{op:Op}{ρ:Operand->D}{m:Mem}{nx:Nat}{e:dJ}(h:aW P op ρ m nx=some e):
 (∀ i∈e.a7.map (·.1),m i≠none\/(nx<=i/\i<nx+e.new))/\(cM op=0->e.rd=[]/\e.a7=[])/\(cM op=1->e.a7=[])/\(cM op=3->e.rd=[]/\∀ i∈e.a7.map (·.1),nx<=i):=by
 cases op with
 |call c=>
  have h0:(∀ i∈e.a7.map (·.1),m i≠none\/(nx<=i/\i<nx+e.new))/\(c.callee=.builtin .len->e.a7=[])/\(c.callee=.builtin .min->e.rd=[]/\e.a7=[]):=by
   simp only[aW] at h;split at h
   .rename_i b hb;split at h
    .unfold fh at h;split at h
     .refine⟨?_,fun _=>?_,fun hx=>(by rw[hx] at hb;cases hb)⟩<;>
      .unfold mJ at h;split at h<;>first|(cases h;simp;done)|skip
       all_goals first|(cases h;done)|skip
       all_goals (split at h<;>first|(cases h;simp;done)|(cases h;done))
     .refine⟨?_,fun hx=>(by rw[hx] at hb;cases hb),fun hx=>(by rw[hx] at hb;cases hb)⟩;split at h
      .unfold rN at h;simp only at h;split at h
       .cases h
       .rename_i hc;split at h
        .cases h;simp
        .split at h
         .rename_i hm;cases h;intro i hi;simp only[List.map_cons,List.map_nil,List.mem_cons,List.not_mem_nil,or_false] at hi;rcases hi with rfl|rfl
          .left;simp[hm]
          .right;simp
         .cases h
        .cases h
      .cases h
     .cases h;refine⟨oS,fun _=>rfl,fun _=>⟨rfl,rfl⟩⟩
     .refine⟨?_,fun hx=>(by rw[hx] at hb;cases hb),fun hx=>(by rw[hx] at hb;cases hb)⟩;split at h
      .rename_i hm;cases h;simp[hm]
      .cases h
     .exact⟨fun i hi=>.inl ((Rk h).1 i hi),fun hx=>(by rw[hx] at hb;cases hb),fun hx=>(by rw[hx] at hb;cases hb)⟩
     .cases h
    .cases h
   .cases h
  refine⟨h0.1,fun hk=>?_,fun hk=>?_,fun hk=>?_⟩
  .unfold cM at hk;split at hk<;>first|(cases hk;done)|skip
   all_goals first|(rename_i hx;injection hx with hx;subst hx;exact h0.2.2 rfl)|(simp_all;done)
  .unfold cM at hk;split at hk<;>first|(cases hk;done)|skip
   all_goals first|(rename_i hx;injection hx with hx;subst hx;exact h0.2.1 rfl)|(simp_all;done)
  .unfold cM at hk;split at hk<;>first|(cases hk;done)|skip
   all_goals simp_all
 |binOp op t x y _=>
  simp only[aW] at h;split at h
  .rename_i C he;simp only[aV] at h;subst h
   have h0:C.a7=[]/\(op=.eql\/op=.neq):=by
    unfold lX at he;split at he
    .cases he;exact⟨rfl,.inl rfl⟩
    .split at he
     .cases he;exact⟨rfl,.inl rfl⟩
     .cases he
    .split at he
     .cases he;exact⟨rfl,.inr rfl⟩
     .cases he
    .cases he
   refine⟨by simp[h0.1],fun hk=>?_,fun _=>h0.1,fun hk=>?_⟩
   .rcases h0.2 with rfl|rfl<;>simp[cM] at hk
   .rcases h0.2 with rfl|rfl<;>simp[cM] at hk
  .cases hb:qO P op t (ρ x) (ρ y) with
   |none=>rw[hb] at h;cases h
   |some r=>rw[hb] at h;cases h;simp
 |lookup t x k ok=>
  have:=Rj h;refine⟨by simp[this.1],fun hk=>?_,fun _=>this.1,fun hk=>?_⟩<;>simp[cM] at hk
 |mapUpdate t x k v=>
  refine⟨fun i hi=>.inl ((GH h).1 i hi),fun hk=>?_,fun hk=>?_,fun hk=>?_⟩<;>simp[cM] at hk
 |insert t x k v=>
  refine⟨fun i hi=>.inl ((GH h).1 i hi),fun hk=>?_,fun hk=>?_,fun hk=>?_⟩<;>simp[cM] at hk
 |slice t x lo hi J=>
  have h0:e.a7=[]:=by
   simp only[aW] at h;unfold mz at h
   repeat' split at h
   all_goals first|(cases h;done)|(cases h;rfl)
  refine⟨by simp[h0],fun hk=>?_,fun _=>h0,fun hk=>?_⟩<;>simp[cM] at hk
 |_=>
  first
  |(simp only[aW] at h;cases h;simp[cM];done)
  |(simp only[aW] at h
    repeat' split at h
    all_goals first
     |(cases h;done)
     |(cases h;simp_all[cM];done)
     |(simp only[dI] at h;obtain⟨x,hx,rfl⟩:=h;simp[cM];done))
def gp(ops:Array Oper)(o:Oper)(st:St)(c:Bool):Prop:=
 ∀ (F:Nat->Prop) (β:aJ) (w:World) (a:Act) (env:Env),(∀ t∈o.looksAt ops,env t=st.env t)->gP F β w env a->Region.wanted o (yielded ops a.tmps)=c
theorem zs(h:o.guard=none):gp ops o st true:=fun _ _ _ _ _ _ _=>by simp[Region.wanted,h]
theorem La{j t:Nat}{b c:Bool}(h:o.guard=some (j,b))(ht:(ops[j]?).bind (·.dst)=some t)(hc:lA (st.env t) b=some c):gp ops o st c:=fun F β w a env he C=>by
 have:=he t (by simp[Oper.looksAt,h,ht]);rw[<- this] at hc;have h1:=af5 C ht hc;simpa[Region.wanted,h] using h1
theorem zt{env:Env}(he:∀ t∈o.looksAt ops,env t=st.env t):∀ t,Operand.tmp t∈o.op.operands->env t=st.env t:=fun t ht=>
 he t (List.mem_append_left _ (List.mem_filterMap.2 ⟨.tmp t,by simpa using ht,rfl⟩))
theorem HC(M:gp ops o st false)(d:D)(hd:∀ F β w,R F β w d undef):bL.Ok P ops o st ⟨d,[],[],0⟩:=by
 intro F β w a m env N he C hm hr hn O r n QX K J;unfold mC;rw[M F β w a env he C,if_neg oS];exact⟨fun _ _=>trivial,J undef w β (hd F β w) hm (Step.refl β w) fun _ h _=>h⟩
theorem Vz{c:Bool}{d:D}{rd:List Nat}(O:gp ops o st c)(h:c=true->bL.Ok P ops o st ⟨d,[],rd,0⟩):bL.Ok P ops o st ⟨.cS c d,[],rd,0⟩:=by
 intro F β w a m env N he C hm hr hn M r n QX K J;cases c with
 |true=>exact h rfl F β w a m env N he C hm hr hn M r n QX K fun v w' β' h1=>J v w' β' (.cS true d v (fun _=>h1) oS)
 |false=>
  have:=HC (P:=P) O (.cS false d) fun F β w=>.cS false d undef oS fun _=>rfl;exact this F β w a m env N he C hm oS hn M r n QX K J
theorem Uo{F:Nat->Prop}{m:Mem}{nx:Nat}{β:aJ}{w:World}{a:Act}{e:dJ}(eN:∀ c,o.op≠ .defer c)(X:Region.wanted o (yielded ops a.tmps)=true)(h:aU P F m nx β w e (execOp a.eval o))
 {r:Option Nat} {n:Nat} {QX:Exit->Act->World->Prop} {K:Act->World->Prop}
 (U:∀ v w' β',R F β' w' e.val v->aL P F (cQ m e.a7) β' w'->Step β w β' w'->(∀ i,β i=none->(i<nx\/nx+e.new<=i)->β' i=none)->K (a.put o.dst v) w'):
 mC r n P ops QX o K a w:=by
 obtain⟨wY,v,w',β',h1,h2,C,J,M,O⟩:=h;unfold mC;rw[X,if_pos rfl];refine⟨fun _ _=>trivial,?_⟩;rw[BR eN,h1];rcases h2 with rfl|⟨rfl,rfl⟩
 .exact U v w' β' C J M O
 .exact U undef w' β' C J M O
theorem acx{op:Op}{ρ:Operand->D}{m:Mem}{nx:Nat}{e:dJ}(h:aW P op ρ m nx=some e):∀ c,op≠ .defer c:=fun c hc=>by
 subst hc;simp[aW] at h
theorem Ry{op:Op}{ρ:Operand->D}{x:FuncId×List D}(h:ea ρ op=some x):∀ c,op≠ .defer c:=fun c hc=>by
 subst hc;simp[ea] at h
theorem ahm{op:Op}{ρ:Operand->D}{m:Mem}{nx:Nat}{e:dJ}(h:aW P op ρ m nx=some e):∀ i∈e.rd,m i≠none:=by
 cases op with
 |call c=>
  simp only[aW] at h;split at h
  .split at h
   .unfold fh at h;split at h
    .unfold mJ at h;split at h<;>first|(cases h;simp;done)|skip
     all_goals first|(cases h;done)|skip
     all_goals (split at h<;>first|(rename_i hm;cases h;simp[hm];done)|(cases h;done))
    .split at h
     .unfold rN at h;simp only at h;split at h
      .cases h
      .rename_i hc;have h1:=aal hc;split at h
       .cases h;exact h1
       .split at h
        .rename_i hm;cases h;intro i hi;simp only[List.mem_cons] at hi;rcases hi with rfl|hi
         .simp[hm]
         .exact h1 i hi
        .cases h
       .cases h
     .cases h
    .cases h;simp
    .split at h
     .rename_i hm;cases h;simp[hm]
     .cases h
    .exact(Rk h).2
    .cases h
   .cases h
  .cases h
 |binOp op t x y _=>
  simp only[aW] at h;split at h
  .rename_i C he;simp only[aV] at h;subst h;unfold lX at he;split at he
   .cases he;simp
   .split at he
    .rename_i hm;cases he;simp[hm]
    .cases he
   .split at he
    .rename_i hm;cases he;simp[hm]
    .cases he
   .cases he
  .cases hb:qO P op t (ρ x) (ρ y) with
   |none=>rw[hb] at h;cases h
   |some r=>rw[hb] at h;cases h;simp
 |lookup t x k ok=>exact(Rj h).2.2
 |mapUpdate t x k v=>exact(GH h).2
 |insert t x k v=>exact(GH h).2
 |slice t x lo hi J=>
  simp only[aW] at h;unfold mz at h
  repeat' split at h
  all_goals first|(cases h;done)|(cases h;simp_all;done)
 |_=>
  first
  |(simp only[aW] at h;cases h;simp;done)
  |(simp only[aW] at h
    repeat' split at h
    all_goals first
     |(cases h;done)
     |(cases h;simp_all;done)
     |(simp only[dI] at h;obtain⟨x,hx,rfl⟩:=h;simp;done))
theorem aeg{op:Op}{ρ:Operand->D}{m m':Mem}{nx:Nat}{e:dJ}(h:aW P op ρ m nx=some e)(hr:∀ i∈e.rd,m i≠none->m' i=m i):aW P op ρ m' nx=some e:=
 afY h fun i hi=>hr i hi (ahm h i hi)
theorem MY{e:dJ}(O:gp ops o st true)(ha:asks st.env o.op)(h:aW P o.op (bn st.env o.op) st.mem st.nx=some e)(hp:e.pre):bL.Ok P ops o st ⟨e.val,e.a7,e.rd,e.new⟩:=by
 intro F β w a m env N he C hm hr hn U r n QX K M;have J:=zt he;refine Uo (m:=m) (nx:=st.nx) (β:=β) (F:=F) (acx h) (O F β w a env he C) (acw hm (fun h1=>hn st.nx (bM _) (by simp[h1])) C (by rw[zv J];exact ha) ?_ hp) M;rw[afX (zz J)];exact aeg h hr
theorem Bn{F:Nat->Prop}{β:aJ}{w:World}{a:Act}{env:Env}{f:FuncId}{args:List D}(M:Region.wanted o (yielded ops a.tmps)=true)(C:gP F β w env a)(ha:asks env o.op)
 (h:ea (bn env o.op) o.op=some (f,args)) (he:na P f=true) {r:Option Nat} {n:Nat} {QX:Exit->Act->World->Prop} {K:Act->World->Prop}
 (J:∀ vs,Rs F β w args vs->Calls P f vs w fun e w'=>∃ v,e=.returned v/\K (a.put o.dst v) w'):mC r n P ops QX o K a w:=by
 obtain⟨vs,h1,h2⟩:=RG (F:=F) (β:=β) (w:=w) C ha h he;unfold mC;rw[M,if_pos rfl];refine⟨fun _ _=>trivial,?_⟩;rw[BR (Ry h),h1];refine⟨oS,Hg ((J vs h2).mono ?_)⟩;rintro e w' ⟨v,rfl,hk⟩;exact hk
theorem Mp{f:FuncId}{args:List D}{r:D}(X:gp ops o st true)(ha:asks st.env o.op)(h:ea (bn st.env o.op) o.op=some (f,args))(hc:az P f args r):bL.Ok P ops o st ⟨r,[],[],0⟩:=by
 intro F β w a m env N he C hm hr hn hN r n QX K U;have J:=zt he;refine Bn (args:=args) (X F β w a env he C) C (by rw[zv J];exact ha) (by rw[DN (zz J)];exact h) hc.1 fun vs hR=>?_;refine(Sc hm hc hR).mono fun e w' ⟨v,h1,h2,M,O⟩=>⟨v,h1,U v w' β h2 M O fun _ h _=>h⟩
theorem Uu{f:FuncId}{args C:List D}{r:D}{br:List Nat}(hw:gp ops o st true)(ha:asks st.env o.op)(h:ea (bn st.env o.op) o.op=some (f,args))(hs:jx P br st.mem args C)(hc:az P f C r)(hr:r.jt=true):
 bL.Ok P ops o st ⟨r,[],br,0⟩:=by
 intro F β w a m env N he J hm O hn hN r n QX K hK;have M:=zt he;refine Bn (args:=args) (hw F β w a env he J) J (by rw[zv M];exact ha) (by rw[DN (zz M)];exact h) hc.1 fun vs hR=>?_;refine(Sd hm hs O hc (aa0 hr) hR).mono fun e w' ⟨v,h1,h2,U,X⟩=>⟨v,h1,hK v w' β h2 U X fun _ h _=>h⟩
theorem VA{f:FuncId}{args es:List D}{n:Nat}{t:TypeId}(hw:gp ops o st true)(ha:asks st.env o.op)(h:ea (bn st.env o.op) o.op=some (f,args))(hc:nj P f args es n t):
 bL.Ok P ops o st ⟨.rs st.nx 0 n,[(st.nx,some (.cells es t))],[],1⟩:=by
 intro F β w a m env N he C hm bY hn hN r n QX K hK;have J:=zt he;refine Bn (args:=args) (hw F β w a env he C) C (by rw[zv J];exact ha) (by rw[DN (zz J)];exact h) hc.1 fun vs hR=>?_;refine(adU hm (hn st.nx (bM _) oS) hc hR).mono fun e w' ⟨v,β',h1,h2,O,U,X⟩=>⟨v,h1,hK v w' β' h2 O U fun i hi M=>?_⟩
 rw[X i (by simp only at M;omega)];exact hi
theorem ahn{f:FuncId}{args:List D}{r:D}{a7:List (Nat×Option Row)}{br:List Nat}(hw:gp ops o st true)(ha:asks st.env o.op)(h:ea (bn st.env o.op) o.op=some (f,args))
 (hc:∀ C M,(∀ i∈br,st.mem i≠none->C i=st.mem i)->gW P f args C M fun r' m' aD=>r'=r/\m'=cQ C a7/\aD=M):bL.Ok P ops o st ⟨r,a7,br,0⟩:=by
 intro F β w a m env N he J hm U hn hN ro n QX K hK;have O:=zt he;have hc:=hc m N U;refine Bn (args:=args) (hw F β w a env he J) J (by rw[zv O];exact ha) (by rw[DN (zz O)];exact h) hc.1 fun vs hR=>?_;refine(hc.2 F β w vs hm hN hR).mono fun e w' hp=>?_;obtain⟨v,d,m',aD,β',h1,⟨X,e2,e3⟩,h3,h4,h5,h6,_,h7⟩:=hp;subst X e2 e3;refine⟨v,h1,hK v w' β' h5 h3 h6 fun i hi _=>?_⟩;rcases Nat.lt_or_ge i aD with h|h
 .exact h7 i h hi
 .exact h4 i h
theorem LW(b:List (Nat×Option Row)):∀ (a:List (Nat×Option Row)) (m:Mem),cQ m (a++b)=cQ (cQ m a) b
 |[],_=>rfl
 |(i,r)::a,m=>LW b a (up m i r)
theorem Sq{i:Nat}{r:Row}:∀ {us:List (Nat×Option Row)} {m:Mem},cQ m us i=some r->(∃ x∈us,x.1=i/\x.2=some r)\/m i=some r
 |[],_,h=>.inr h
 |(j,s)::us,m,h=>by
  rcases Sq (us:=us) (m:=up m j s) h with⟨x,hx,e⟩|h
  .exact .inl ⟨x,by simp[hx],e⟩
  .by_cases hj:i=j
   .subst hj;rw[an] at h;exact .inl ⟨(i,s),oS,rfl,h⟩
   .rw[aZ _ _ hj] at h;exact .inr h
theorem RW{i:Nat}:∀ {us:List (Nat×Option Row)} {m m':Mem},m i=m' i->cQ m us i=cQ m' us i
 |[],_,_,h=>h
 |(j,s)::us,m,m',h=>RW (us:=us) (by simp only[up];split<;>simp[h])
theorem Tu{i:Nat}:∀ {us:List (Nat×Option Row)} {m:Mem},(∀ x∈us,x.1≠i)->cQ m us i=m i
 |[],_,_=>rfl
 |(j,s)::us,m,h=>by
  rw[cQ,Tu (us:=us) fun x hx=>h x (by simp[hx])];exact aZ _ _ fun e=>h (j,s) oS e.symm
theorem LX{F F':Nat->Prop}{β β':aJ}{w:World}{r:Row}{p:Pl}(hr:Hv r)(h:c7 P F β w r p):c7 P F' β' w r p:=by
 obtain⟨cs,e,rfl,hs⟩:=hr;cases h with
 |nil _=>exact .nil _
 |cells _ _ b o room sz c h1 h2 C J M=>
  refine .cells cs e b o room sz c h1 h2 C J fun k d hd=>?_;obtain⟨u,O,U,X⟩:=M k d hd;exact⟨u,O,MP (hs d (cx hd)) U,X⟩
theorem WD{F F':Nat->Prop}{β β':aJ}{w:World}{i j off k:Nat}{v:Value}(hb:β' j=β i)(h:R F β w (.rs i off k) v):R F' β' w (.rs j off k) v:=by
 cases h with
 |l9 _ _ _ _ h hv=>exact .l9 j off k v (hb.trans h) hv
 |jO _ a h=>exact .jO j a (hb.trans h)
 |kO _ _ a b o len room sz h=>exact .kO j off a b o len room sz (hb.trans h)
 |rs _ _ _ cap b o len room sz h h1 h2 C J=>exact .rs j off k cap b o len room sz (hb.trans h) h1 h2 C J
theorem aeh{f:FuncId}{args es:List D}{n:Nat}{t:TypeId}{a7:List (Nat×Option Row)}{br:List Nat}(hw:gp ops o st true)(ha:asks st.env o.op)(h:ea (bn st.env o.op) o.op=some (f,args))(hfr:Ub st.mem br a7 args)
 (mf:∀ d∈es,d.jt=true) (hc:∀ iU,gW P f args (only br st.mem) iU fun r' m' _=>∃ q,iU<=q/\r'=.rs q 0 n/\m' q=some (.cells es t)/\∀ i∈br,m' i=cQ st.mem a7 i):
 bL.Ok P ops o st ⟨.rs st.nx 0 n,a7++[(st.nx,some (.cells es t))],br,1⟩:=by
 intro F β w a m env N he hE hm bY hn hN ro k QX K hK;have jP:=zt he;obtain⟨f1,f2,f3⟩:=hfr
 have CN:∀ i∈br,m i=st.mem i:=fun i hi=>by
  obtain⟨r,hr,_⟩:=f1 i hi;exact bY i hi (by simp[hr])
 have Da:∀ i∈br,∃ p,β i=some p:=fun i hi=>by
  obtain⟨r,hr,_⟩:=f1 i hi;obtain⟨p,hp,_⟩:=hm.row i r ((CN i hi).trans hr);exact⟨p,hp⟩
 have gy:β st.nx=none:=hn st.nx (bM _) (Nat.lt_succ_self _)
 have hnr:st.nx∉br:=fun hx=>by
  obtain⟨p,hp⟩:=Da _ hx;rw[gy] at hp;cases hp
 have YX:∀ i∈br,i<N:=fun i hi=>by
  obtain⟨p,hp⟩:=Da i hi;rcases Nat.lt_or_ge i N with g|g
  .exact g
  .rw[hN i g] at hp;cases hp
 have hc:=hc N
 have hon:only br st.mem=only br m:=by
  funext i;unfold only;split
  .rename_i hi;exact(CN i hi).symm
  .rfl
 rw[hon] at hc;refine Bn (args:=args) (hw F β w a env he hE) hE (by rw[zv jP];exact ha) (by rw[DN (zz jP)];exact h) hc.1 fun vs hR=>?_
 let X:aJ:=fun i=>if i∈br then β i else none
 let F2:Nat->Prop:=fun b=>F b\/∃ i p,i∉br/\β i=some p/\p.bF=some b
 have b2:∀ {i p},X i=some p->i∈br/\β i=some p:=fun {i p} hi=>by
  simp only[X] at hi;split at hi
  .rename_i g;exact⟨g,hi⟩
  .cases hi
 have J3:∀ {i},i∈br->X i=β i:=fun {i} hi=>if_pos hi
 have vq:aL P F2 (only br m) X w:=by
  refine⟨fun i r hi=>?_,fun i j p q b hp hq e U=>hm.inj i j p q b (b2 hp).2 (b2 hq).2 e U,fun i p b hp e=>hm.lt i p b (b2 hp).2 e,fun i p b hp e C=>?_,hm.fb.next (fun b C=>?_) (fun _ h=>.inl h) fun _ _ _=>rfl⟩
  .unfold only at hi;split at hi
   .rename_i qb;obtain⟨p,hp,aA⟩:=hm.row i r hi;obtain⟨r',iD,hs⟩:=f1 i qb;rw[CN i qb,iD] at hi;cases hi;exact⟨p,(J3 qb).trans hp,LX hs aA⟩
   .cases hi
  .rcases C with C|⟨j,q,hj,hq,eq⟩
   .exact hm.nf i p b (b2 hp).2 e C
   .have:=hm.inj i j p q b (b2 hp).2 hq e eq;subst this;exact hj (b2 hp).1
  .rcases C with C|⟨j,q,_,hq,eq⟩
   .exact hm.fb.lt b C
   .exact hm.lt j q b hq eq
 have wU:Rs F2 X w args vs:=⟨hR.1,fun k d v hd hv=>by
  have h0:=hR.2 k d v hd hv;rcases f3 d (cx hd) with ht|⟨i,off,l,hi,rfl⟩
  .refine(ht F β w v h0).lift fun b hb=>⟨fun C=>?_,fun i p hp e=>?_⟩
   .rcases C with C|⟨j,q,_,hq,eq⟩
    .exact hb (.inl C)
    .exact hb (.inr fun nU=>nU j q hq eq)
   .exact hb (.inr fun nU=>nU i p (b2 hp).2 e)
  .exact WD (J3 hi) h0⟩
 refine(hc.2 F2 X w vs vq (fun i hi=>?_) wU).mono ?_
 .simp only[X];split
  .rename_i g;have:=YX i g;omega
  .rfl
 rintro e w' ⟨v,d,m',aD,β',h1,⟨q,hq,rfl,hmq,sk⟩,h3,h4,h5,O,h7,h8⟩;have YY:q∉br:=fun hx=>by have:=YX q hx;omega
 have OK:∀ i p b,i∉br->β i=some p->p.bF=some b->X.free b:=fun i p b hi hp e j r hj U=>by
  have:=hm.inj i j p r b hp (b2 hj).2 e U;subst this;exact hi (b2 hj).1
 let β3:aJ:=fun i=>if i=st.nx then β' q else if i∈br then β' i else β i
 have PT:β3 st.nx=β' q:=if_pos rfl
 have J4:∀ {i},i∈br->β3 i=β' i:=fun {i} hi=>by
  simp only[β3];rw[if_neg (show ¬ i=st.nx from fun e=>hnr (e▸hi)),if_pos hi]
 have J5:∀ {i},i≠st.nx->i∉br->β3 i=β i:=fun {i} h1 h2=>by
  simp only[β3];rw[if_neg h1,if_neg h2]
 have FZ:∀ i p,β3 i=some p->(∃ j,β' j=some p/\((i=st.nx/\j=q)\/(i∈br/\j=i)))\/(i≠st.nx/\i∉br/\β i=some p):=fun i p hp=>by
  by_cases M:i=st.nx
  .subst M;exact .inl ⟨q,PT▸hp,.inl ⟨rfl,rfl⟩⟩
  .by_cases e2:i∈br
   .exact .inl ⟨i,(J4 e2)▸hp,.inr ⟨e2,rfl⟩⟩
   .exact .inr ⟨M,e2,(J5 M e2)▸hp⟩
 have sr:Step β w β3 w':=by
  refine⟨O.size,fun b hb hf=>?_,fun i p hp=>?_,O.out,fun i r hp jA=>?_⟩
  rotate_left 2
  .have M:i≠st.nx:=fun e=>by rw[e,gy] at hp;cases hp
   by_cases e2:i∈br
   .exact O.lp i r ((J3 e2).trans hp) ((J4 e2)▸jA)
   .exact px (O.fp r (hm.lt i _ r hp rfl) (OK i _ r e2 hp rfl)).1
  .have F0:X.free b:=fun i p hp e=>hf i p (b2 hp).2 e;obtain⟨g1,g2⟩:=O.fp b hb F0;refine⟨g1,fun i p hp e=>?_⟩;rcases FZ i p hp with⟨j,hj,_⟩|⟨_,_,hj⟩
   .exact g2 j p hj e
   .exact hf i p hj e
  .have M:i≠st.nx:=fun e=>by rw[e,gy] at hp;cases hp
   by_cases e2:i∈br
   .rw[J4 e2];exact O.iR i p ((J3 e2).trans hp)
   .rw[J5 M e2];exact .inl hp
 have VB:∀ i p j r b,i∉br->β i=some p->p.bF=some b->β' j=some r->r.bF=some b->False:=fun i p j r b hi hp e hj U=>
  (O.fp b (hm.lt i p b hp e) (OK i p b hi hp e)).2 j r hj U
 refine⟨v,h1,hK v w' β3 (WD PT h5) ?_ sr fun i hi bf=>?_⟩
 .rw[LW];show aL P F (up (cQ m a7) st.nx (some (.cells es t))) β3 w';refine⟨fun i r hi=>?_,fun i j p r b hp hr e U=>?_,fun i p b hp e=>?_,fun i p b hp e=>?_,hm.fb.next (fun b C=>Nat.lt_of_lt_of_le (hm.fb.lt b C) O.size) (fun _ h=>h) fun t _ C=>(O.fp _ (hm.fb.lt _ C) fun i p hp e=>hm.nf i p _ (b2 hp).2 e C).1⟩
  .by_cases M:i=st.nx
   .subst M;rw[an] at hi;cases hi;obtain⟨p,hp,aA⟩:=h3.row q _ hmq;exact⟨p,PT.trans hp,LX ⟨es,t,rfl,mf⟩ aA⟩
   .rw[aZ _ _ M] at hi;by_cases e2:i∈br
    .rw[RW (CN i e2), <- sk i e2] at hi;obtain⟨p,hp,aA⟩:=h3.row i r hi
     have hs:Hv r:=by
      rw[sk i e2] at hi;rcases Sq hi with⟨x,hx,_,hxr⟩|hi
      .exact(f2 x hx).2 r hxr
      .obtain⟨r',iD,hs⟩:=f1 i e2;rw[iD] at hi;cases hi;exact hs
     exact⟨p,(J4 e2).trans hp,LX hs aA⟩
    .rw[Tu (i:=i) fun x hx (e:x.1=i)=>e2 (e▸(f2 x hx).1)] at hi;obtain⟨p,hp,aA⟩:=hm.row i r hi;exact⟨p,(J5 M e2).trans hp,aA.step sr fun b e=>(O.fp b (hm.lt i p b hp e) (OK i p b e2 hp e)).1⟩
  .rcases FZ i p hp with⟨i',J,ci⟩|⟨i1,i2,J⟩<;>rcases FZ j r hr with⟨j',lJ,cj⟩|⟨j1,j2,lJ⟩
   .have:=h3.inj i' j' p r b J lJ e U;subst this;rcases ci with⟨rfl,rfl⟩|⟨ci,rfl⟩<;>rcases cj with⟨rfl,c⟩|⟨cj,c⟩
    .rfl
    .subst c;exact absurd cj YY
    .subst c;exact absurd ci YY
    .exact c
   .exact(VB j r i' p b j2 lJ U J e).elim
   .exact(VB i p j' r b i2 J e lJ U).elim
   .exact hm.inj i j p r b J lJ e U
  .rcases FZ i p hp with⟨i',J,_⟩|⟨_,_,J⟩
   .exact h3.lt i' p b J e
   .exact Nat.lt_of_lt_of_le (hm.lt i p b J e) O.size
  .rcases FZ i p hp with⟨i',J,_⟩|⟨_,_,J⟩
   .exact fun C=>h3.nf i' p b J e (.inl C)
   .exact hm.nf i p b J e
 .have M:i≠st.nx:=by simp only at bf;omega
  have e2:i∉br:=fun hx=>by
   obtain⟨p,hp⟩:=Da i hx;rw[hi] at hp;cases hp
  rw[J5 M e2];exact hi
end
end Go.Abs
