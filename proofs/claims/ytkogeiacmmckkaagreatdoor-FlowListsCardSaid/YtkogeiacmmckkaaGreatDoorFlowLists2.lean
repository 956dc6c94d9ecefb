/- Part 2. -/
import Derived.Test.YtkogeiacmmckkaaGreatDoorFlowLists1
import Derived.ChangeKeysEq
import Derived.OrdersIn
import Derived.ProofKit
set_option linter.all false
namespace Go.Abs
section
variable{P:Program}{F:Nat->Prop}{m:Mem}{nx:Nat}{β:az}{w w':World}
theorem Rd.A6{b o:Nat}{cs:List D}(h:Rd F β w b o cs):∃ c:List Value,Rl F β w cs c/\∀ (j:Nat) (u:Value),c[j]? =some u->w.cell? ((⟨b,o,none⟩:Addr).add j)=some u:=by
 obtain⟨us,h1,h2⟩:=h;refine⟨(List.range cs.length).map us,⟨oS,fun k d u hk hu=>?_⟩,fun j u hu=>?_⟩
 .have aj:k<cs.length:=(bZ.1 hk).1;simp[aj] at hu;subst hu;exact⟨h2 k d hk,(h1 k aj).2⟩
 .have aj:j<cs.length:=by
   have:=(bZ.1 hu).1;simpa using this
  simp[aj] at hu;subst hu;rw[Addr.add_lit];exact(h1 j aj).1
theorem OQ(hm:aC P F m β w){sz:Nat}{x:D}{v:Value}{p:Prop}{rd:List Nat}{k:Nat}{news:List D}(hx:R F β w x v)(h:iG m sz x=some (p,rd,k,news))(hp:p)
 (J:∀ i off n cs e,x=.rs i off n->m i=some (.cells cs e)->n=0\/True):
 ∃ a cap c,v=.slice a k cap/\Rl F β w news c/\c.length=k*sz/\(∀ ad,a=some ad->∀ (j:Nat) (u:Value),c[j]? =some u->w.cell? (ad.add j)=some u)/\(a=none->c=[]/\k*sz=0):=by
 cases x with
 |sl es n=>
  simp only[iG,aK,cq] at h;obtain⟨rfl,rfl,rfl,rfl⟩:=h;rcases hx.ud with⟨rfl,rfl,a,cap,rfl⟩|⟨b,o,cap,rfl,_,_,_,_,_,M⟩
  .exact⟨a,cap,[],rfl,⟨oS,oS⟩,oS,oS,oS⟩
  .obtain⟨c,h1,h2⟩:=(M.take (n*sz)).A6;refine⟨_,cap,c,rfl,h1,?_,fun ad C=>by cases C;exact h2,oS⟩;rw[h1.1,List.length_take];exact Nat.min_eq_left hp
 |z=>
  simp only[iG,aK,cq] at h;obtain⟨rfl,rfl,rfl,rfl⟩:=h;obtain⟨a,rfl⟩:=hx.AE;exact⟨a,0,[],rfl,⟨oS,oS⟩,oS,oS,oS⟩
 |rs i off n=>
  simp only[iG] at h;cases hi:m i with
  |none=>simp[hi] at h
  |some r=>
  cases r with
  |map es=>simp[hi] at h
  |raw es=>simp[hi] at h
  |bs u x T=>simp[hi] at h
  |lp k=>simp[hi] at h
  |iA f r=>simp[hi] at h
  |cells cs e=>
  simp only[hi,aK,cq] at h;obtain⟨rfl,rfl,rfl,rfl⟩:=h;rcases hx.xZ hm hi with⟨rfl,rfl,rfl,kB,a,rfl⟩|⟨b,o,room,hβ,aD,O⟩
  .exact⟨a,0,[],rfl,⟨oS,oS⟩,oS,oS,oS⟩
  .rcases O with⟨rfl,a,rfl⟩|⟨cap,rfl,U,X,g3,g4⟩
   .exact⟨a,0,[],rfl,⟨oS,oS⟩,oS,oS,oS⟩
   .obtain⟨c,h1,h2⟩:=((aD.rd.1.drop off).take (n*sz)).A6;refine⟨_,cap,c,rfl,h1,?_,fun ad C=>by cases C;exact h2,oS⟩;rw[h1.1];simp;omega
 |_=>simp[iG] at h
theorem Wo(t ty e:TypeId)(i:TypeInfo)(ht:P.underlying t=some (.slice e))(hi:P.info? e=some i)(a0 a:Option Addr)(n cap c:Nat)(C:n<=cap):
 (Builtin.append_ #[t,t] ty #[.slice a0 n cap,.slice a 0 c]).run P w=.ok (.slice a0 n cap) w:=by
 cases a0<;>cases a<;>simp[Builtin.append_,run_underlying ht,sizeOf,typeInfo,hi,Builtin.lenOf,C,Builtin.firstCells,loadCells,loadCellsFrom,storeCells]
theorem Wq(t ty e:TypeId)(i:TypeInfo)(ht:P.underlying t=some (.slice e))(hi:P.info? e=some i)(g o n cap:Nat)(cur:Array Value)(hg:w.heap[g]? =some (.cells cur e (0,0)))
 (a:Addr) (k c:Nat) (news:List Value) (hl:news.length=k*i.size) (O:∀ j u,news[j]? =some u->w.cell? (a.add j)=some u) (h1:∀ u∈news,u.oneCell'=true) (M:n+k<=cap) (J:o+n*i.size+news.length<=cur.size):
 (Builtin.append_ #[t,t] ty #[.slice (some ⟨g,o,none⟩) n cap,.slice (some a) k c]).run P w=
  .ok (.slice (some ⟨g,o,none⟩) (n+k) cap) (w.setRow g (cur.toList.take (o+n*i.size)++news++cur.toList.drop (o+n*i.size+news.length)).toArray):=by
 have hf:=run_firstCells_some (P:=P) w i.size k a k c news hl O;have C:=run_storeCells_at P g (o+n*i.size) e news 0 cur w hg (by simpa using J) h1;simp only[Nat.add_zero] at C;simp[Builtin.append_,run_underlying ht,sizeOf,typeInfo,hi,Builtin.lenOf,M,hf,Addr.add_lit,C]
theorem Wr(t ty e:TypeId)(i:TypeInfo)(z:Value)(ht:P.underlying t=some (.slice e))(hi:P.info? e=some i)(hz:i.zero=some z)(a0:Option Addr)(n cap:Nat)(gG:List Value)(iD:gG.length=n*i.size)
 (holds:∀ ad,a0=some ad->∀ j v,gG[j]? =some v->w.cell? (ad.add j)=some v) (h0:a0=none->n=0/\cap=0) (M:n<=cap)
 (a:Addr) (k c:Nat) (news:List Value) (hl:news.length=k*i.size) (C:∀ j v,news[j]? =some v->w.cell? (a.add j)=some v) (hg:cap<n+k) (J:n+k<=maxLen) (hb:(n+k)*i.bytes<=140737488355328):
 (Builtin.append_ #[t,t] ty #[.slice a0 n cap,.slice (some a) k c]).run P w=
  .ok (.slice (some ⟨w.heap.size,0,none⟩) (n+k) (grownCap w (n+k) cap e)) (w.drew.alloc (.cells (gG.toArray++news.toArray++Builtin.zeroCells z.cells (grownCap w (n+k) cap e - (n+k))) e)):=by
 simp only[maxLen] at J;cases a0 with
 |some b=>exact run_append_grow w t ty e i z ht hi hz b n cap gG iD (holds b rfl) a k c news hl C hg oG (growslice_fits oG hb)
 |none=>
  obtain⟨rfl,rfl⟩:=h0 rfl;have:gG=[]:=List.eq_nil_of_length_eq_zero (by simpa using iD);subst this;have:=run_append_nil (P:=P) w t ty e i z ht hi hz a k c news hl C oG oG (by simp at hb;omega);simpa using this
theorem Wy(z:Array Value)(n:Nat):(Builtin.zeroCells z n).toList.length=n*z.size:=by simp[Builtin.zeroCells]
theorem Rl.append{C J:List D}{M O:List Value}(h1:Rl F β w C M)(h2:Rl F β w J O):Rl F β w (C++J) (M++O):=by
 refine⟨by simp[h1.1,h2.1],fun k d u hk hu=>?_⟩;by_cases aj:k<C.length
 .rw[List.getElem?_append_left aj] at hk;rw[List.getElem?_append_left (by rw[h1.1];exact aj)] at hu;exact h1.2 k d u hk hu
 .rw[List.getElem?_append_right oG] at hk;rw[List.getElem?_append_right (by rw[h1.1];omega),h1.1] at hu;exact h2.2 _ d u hk hu
theorem Rl.step{cs:List D}{c:List Value}{β':az}(h:Rl F β w cs c)(hs:Step β w β' w'):Rl F β' w' cs c:=⟨h.1,fun k d u hk hu=>⟨(h.2 k d u hk hu).1.step hs,(h.2 k d u hk hu).2⟩⟩
theorem Yi(hm:aC P F m β w)(hn:β nx=none){e:TypeId}{z:Value}(O:z.cells.size=P.cellsOf e){cs:List D}{c:List Value}(hc:Rl F β w cs c){n N:Nat}(hlen:cs.length=n*P.cellsOf e)(M:n<=N)(dt:N<=maxLen):
 ∃ β',aC P F (up m nx (some (.cells cs e))) β' (w.alloc (.cells (c.toArray++Builtin.zeroCells z.cells (N - n)) e))/\Step β w β' (w.alloc (.cells (c.toArray++Builtin.zeroCells z.cells (N - n)) e))/\
  R F β' (w.alloc (.cells (c.toArray++Builtin.zeroCells z.cells (N - n)) e)) (.rs nx 0 n) (.slice (some ⟨w.heap.size,0,none⟩) n N)/\∀ i,i≠nx->β' i=β i:=by
 obtain⟨h2,C⟩:=Cp hm hn (cs:=cs) (c:=c) (e:=e) hc.1 hc.2 (Builtin.zeroCells z.cells (N - n)).toList
 have J:(c++(Builtin.zeroCells z.cells (N - n)).toList).toArray=c.toArray++Builtin.zeroCells z.cells (N - n):=by
  apply Array.ext';simp
 rw[J] at h2 C;have e2:n*P.cellsOf e+(N - n)*P.cellsOf e=N*P.cellsOf e:=by rw[<- Nat.add_mul];congr 1;omega
 have e3:=Wy z.cells (N - n);rw[O] at e3;refine⟨_,h2,C,?_,fun i hi=>bE _ _ hi⟩;exact .rs nx 0 n N w.heap.size 0 _ _ _ (au _ _ _) M dt oG oG
theorem Re(hm:aC P F m β w)(hn:β nx=none)(e:TypeId):aC P F (up m nx (some (.cells [] e))) (up β nx (some .nil)) w/\Step β w (up β nx (some .nil)) w:=by
 have hs:Step β w (up β nx (some .nil)) w:=by
  refine⟨bO _,fun b hb hf=>⟨rfl,fun i q hq=>?_⟩,fun i q hq=>.inl ?_,⟨rfl,rfl⟩,fun _ _ _ _=>nd rfl⟩
  .by_cases hi:i=nx
   .subst hi;rw[au] at hq;cases hq;simp[Pl.bJ]
   .rw[bE _ _ hi] at hq;exact hf i q hq
  .rw[bE _ _ (fun e=>by rw[e,hn] at hq;cases hq)];exact hq
 have sub:∀ i q b,up β nx (some .nil) i=some q->q.bJ=some b->β i=some q:=fun i q b hq e=>by
  by_cases hi:i=nx
  .subst hi;rw[au] at hq;cases hq;simp[Pl.bJ] at e
  .rw[bE _ _ hi] at hq;exact hq
 refine⟨⟨fun i r hi=>?_,fun i j p q b hp hq e J=>hm.inj i j p q b (sub i p b hp e) (sub j q b hq J) e J,fun i p b hp e=>hm.lt i p b (sub i p b hp e) e,fun i p b hp e=>hm.nf i p b (sub i p b hp e) e,hm.fb⟩,hs⟩;by_cases C:i=nx
 .subst C;rw[au] at hi;cases hi;exact⟨.nil,au _ _ _,.nil e⟩
 .rw[bE _ _ C] at hi;obtain⟨p,hp,aD⟩:=hm.row i r hi;exact⟨p,by rw[bE _ _ C];exact hp,aD.step hs fun _ _=>rfl⟩
structure Src(P:Program)(w:World)(t u ty E:TypeId)(vx:Value)(k:Nat)(c:List Value):Prop where
 len:c.length=k*P.cellsOf E
 zero:k=0->∀ a0 n cap,n<=cap->(Builtin.append_ #[t,u] ty #[.slice a0 n cap,vx]).run P w=.ok (.slice a0 n cap) w
 new:0<k->∀ a0 n cap (gG:List Value) z,(P.info? E).bind (·.zero)=some z->gG.length=n*P.cellsOf E->(∀ ad,a0=some ad->∀ j v,gG[j]? =some v->w.cell? (ad.add j)=some v)->(a0=none->n=0/\cap=0)->n<=cap->cap<n+k->n+k<=maxLen->(n+k)*P.bytesOf E<=140737488355328->
  (Builtin.append_ #[t,u] ty #[.slice a0 n cap,vx]).run P w=.ok (.slice (some ⟨w.heap.size,0,none⟩) (n+k) (grownCap w (n+k) cap E)) (w.drew.alloc (.cells (gG.toArray++c.toArray++Builtin.zeroCells z.cells (grownCap w (n+k) cap E - (n+k))) E))
 fit:0<k->∀ g o n cap (cur:Array Value),w.heap[g]? =some (.cells cur E (0,0))->n+k<=cap->o+n*P.cellsOf E+c.length<=cur.size->(∀ v∈c,v.oneCell'=true)->
  (Builtin.append_ #[t,u] ty #[.slice (some ⟨g,o,none⟩) n cap,vx]).run P w=.ok (.slice (some ⟨g,o,none⟩) (n+k) cap) (w.setRow g (cur.toList.take (o+n*P.cellsOf E)++c++cur.toList.drop (o+n*P.cellsOf E+c.length)).toArray)
theorem I5(hm:aC P F m β w){t ty:TypeId}{x:D}{vx:Value}{p:Prop}{rd:List Nat}{k:Nat}{news:List D}(hx:R F β w x vx)(h:iG m (P.cellsOf (av P t)) x=some (p,rd,k,news))(hp:p)(ht:bm P t=true)(kA:0<P.cellsOf (av P t)):
 ∃ c,Rl F β w news c/\Src P w t t ty (av P t) vx k c:=by
 obtain⟨hu,c7⟩:=je ht;obtain⟨i,d,z,hi,hd,hz,_,jA,_,bK,hb,_⟩:=qI c7;obtain⟨a,c',c,rfl,cF,M,O,M8⟩:=OQ hm hx h hp (fun _ _ _ _ _ _ _=>.inr trivial)
 have U:0<k->∃ ad,a=some ad:=fun hk=>by
  cases a with
  |none=>have:=(M8 rfl).2;have:=Nat.mul_pos hk kA;omega
  |some ad=>exact⟨ad,rfl⟩
 refine⟨c,cF,M,fun hk a0 n cap C=>?_,fun hk a0 n cap gG z' J lH ue h0 uO hg dt kF=>?_,fun hk g o n cap cur L8 um Dm lZ=>?_⟩
 .subst hk;exact Wo (P:=P) (w:=w) t ty _ i hu hi a0 a n cap c' C
 .obtain⟨ad,rfl⟩:=U hk;simp only[hi,Option.bind_some] at J;rw[hz] at J;cases J;exact Wr (P:=P) (w:=w) t ty _ i z hu hi hz a0 n cap gG (by rw[bK];exact lH) ue h0 uO ad k c' c (by rw[bK];exact M) (O ad rfl) hg dt (by rw[hb];exact kF)
 .obtain⟨ad,rfl⟩:=U hk;have X:=Wq (P:=P) (w:=w) t ty _ i hu hi g o n cap cur L8 ad k c' c (by rw[bK];exact M) (O ad rfl) lZ um (by rw[bK];omega);rw[bK] at X;exact X
theorem BX(hm:aC P F m β w)(hn:β nx=none){t u ty E:TypeId}{vs vx:Value}{k:Nat}{news:List D}{c:List Value}(cF:Rl F β w news c)(X:Src P w t u ty E vx k c)(c7:aG P E=true)(kA:0<P.cellsOf E){pre:Prop}{rd:List Nat}:
 (R F β w .z vs->k<=maxLen->k*P.bytesOf E<=140737488355328->aN P F m nx β w { pre:=pre,val:=.rs nx 0 k,aT:=[(nx,some (.cells news E))],rd:=rd,new:=1 } (do Pure.pure (Next.value (<- Builtin.append_ #[t,u] ty #[vs,vx]))))/\
 (∀ es n,R F β w (.sc es n) vs->0<k->n*P.cellsOf E=es.length->n+k<=maxLen->(n+k)*P.bytesOf E<=140737488355328->
  aN P F m nx β w { pre:=pre,val:=.rs nx 0 (n+k),aT:=[(nx,some (.cells (es++news) E))],rd:=rd,new:=1 } (do Pure.pure (Next.value (<- Builtin.append_ #[t,u] ty #[vs,vx]))))/\
 ∀ i off n cs,R F β w (.rs i off n) vs->m i=some (.cells cs E)->off+n*P.cellsOf E=cs.length->n+k<=maxLen->(n+k)*P.bytesOf E<=140737488355328->
  aN P F m nx β w { pre:=pre,val:=.rs nx 0 (n+k),aT:=[(i,none),(nx,some (.cells (cs.drop off++news) E))],rd:=rd,new:=1 } (do Pure.pure (Next.value (<- Builtin.append_ #[t,u] ty #[vs,vx]))):=by
 obtain⟨ii,d,z,hi,_,hz,_,jA,_,akR,_⟩:=qI c7;have rR:=X.len;have Kz:k=0->news=[]:=fun hk=>List.eq_nil_of_length_eq_zero (by rw[<- cF.1,rR,hk];simp)
 have grow:∀ (β0:az) (m0:Mem),aC P F m0 β0 w->Step β w β0 w->β0 nx=none->(∀ i,β i=none->β0 i=none)->∀ (a0:Option Addr) (n cap:Nat) (Hc:List D) (gG:List Value),Rl F β0 w Hc gG->gG.length=n*P.cellsOf E->
  (∀ ad,a0=some ad->∀ j v,gG[j]? =some v->w.cell? (ad.add j)=some v)->(a0=none->n=0/\cap=0)->n<=cap->n+k<=maxLen->(n+k)*P.bytesOf E<=140737488355328->0<k->cap<n+k->
  ∃ v w' β',(Builtin.append_ #[t,u] ty #[.slice a0 n cap,vx]).run P w=.ok v w'/\R F β' w' (.rs nx 0 (n+k)) v/\aC P F (up m0 nx (some (.cells (Hc++news) E))) β' w'/\Step β w β' w'/\∀ i,β i=none->(i<nx\/nx+1<=i)->β' i=none:=by
  intro β0 m0 jS qw oI gW a0 n cap Hc gG hold lH ue h0 uO dt kF hk hg;have M:=X.new hk a0 n cap gG z (by simp[hi,hz]) lH ue h0 uO hg dt kF;have wW:Rl F β0 w.drew (Hc++news) (gG++c):=(hold.append (cF.step qw)).step Pg;obtain⟨β',C,J,U,g4⟩:=Yi (P:=P) (nx:=nx) (e:=E) (z:=z) jS.drew oI jA wW (n:=n+k) (N:=grownCap w (n+k) cap E) (by rw[<- wW.1,List.length_append,lH,rR,Nat.add_mul]) (grownCap_ge w _ _ _) (grownCap_le_maxLen w _ _ _ dt);have e1:(gG++c).toArray=gG.toArray++c.toArray:=by simp
  rw[e1] at C J U;refine⟨_,_,β',M,U,C,(qw.trans Pg).trans J,fun j hj oE=>?_⟩;rw[g4 j oG];exact gW j hj
 refine⟨fun hs dt kF=>?_,fun es n hs hk hlen dt kF=>?_,fun i off n cs hs cP yq dt kF=>?_⟩
 .obtain⟨a0,rfl⟩:=hs.AE;rcases Nat.eq_zero_or_pos k with hk|hk
  .obtain⟨C,J⟩:=Re hm hn E;have:=Kz hk;subst hk this;exact⟨.value (.slice a0 0 0),.slice a0 0 0,w,up β nx (some .nil),by simp[X.zero rfl a0 0 0 (bO _)],.inl rfl,.jR nx a0 (au _ _ _),C,J,vF⟩
  .obtain⟨v,w',β',M,C,J,U,g4⟩:=grow β m hm (Step.refl β w) hn (fun _ h=>h) a0 0 0 [] [] ⟨rfl,oS⟩ oS oS (fun _=>⟨rfl,rfl⟩) (bO _) oG (by simpa using kF) hk oG;refine⟨.value v,v,w',β',by simp[M],.inl rfl,?_,?_,U,g4⟩
   .simpa using C
   .simpa[cu] using J
 .cases hs with
  |sc _ _ a h=>
  rcases h.ud with⟨rfl,rfl,a',Dn,hv⟩|⟨b,o,Dn,hv,_,_,_,_,_,bU⟩
  .cases hv;obtain⟨v,w',β',M,C,J,U,g4⟩:=grow β m hm (Step.refl β w) hn (fun _ h=>h) a 0 0 [] [] ⟨rfl,oS⟩ oS oS (fun _=>⟨rfl,rfl⟩) (bO _) dt kF hk oG;exact⟨.value v,v,w',β',by simp[M],.inl rfl,C,by simpa[cu] using J,U,g4⟩
  .cases hv;obtain⟨gG,D4,M'⟩:=bU.A6;obtain⟨v,w',β',M,C,J,U,g4⟩:=grow β m hm (Step.refl β w) hn (fun _ h=>h) (some ⟨b,o,none⟩) n n es gG D4 (by rw[D4.1];exact hlen.symm) (fun ad rS=>by cases rS;exact M') oS (bO _) dt kF hk oG;exact⟨.value v,v,w',β',by simp[M],.inl rfl,C,by simpa[cu] using J,U,g4⟩
 .have cy:i≠nx:=fun e=>by
   obtain⟨p',iB,_⟩:=hm.row i _ cP;rw[e,hn] at iB;cases iB
  have Na:=hm.dead i;have HM:=zP β w i;have dN:up β i (some .dead) nx=none:=by rw[bE _ _ (Ne.symm cy)];exact hn
  have gW:∀ j,β j=none->up β i (some .dead) j=none:=fun j hj=>by
   by_cases cS:j=i
   .subst cS;obtain⟨p',iB,_⟩:=hm.row j _ cP;rw[hj] at iB;cases iB
   .rw[bE _ _ cS];exact hj
  have small:∀ a0:Option Addr,n=0->cs.length=off->vs=.slice a0 0 0->aN P F m nx β w { pre:=pre,val:=.rs nx 0 (n+k),aT:=[(i,none),(nx,some (.cells (cs.drop off++news) E))],rd:=rd,new:=1 } (do Pure.pure (Next.value (<- Builtin.append_ #[t,u] ty #[vs,vx]))):=by
   rintro a0 rfl nE rfl;have Tk:cs.drop off=[]:=by simp;omega
   rcases Nat.eq_zero_or_pos k with rfl|hk
   .have wc:=Kz rfl;subst wc;obtain⟨C,J⟩:=Re Na dN E;refine⟨.value (.slice a0 0 0),.slice a0 0 0,w,_,by simp[X.zero rfl a0 0 0 (bO _)],.inl rfl,.jR nx a0 (au _ _ _),?_,HM.trans J,fun j hj oE=>?_⟩
    .simp only[cu,Tk,List.append_nil];exact C
    .rw[bE _ _ (by simp only at oE;omega)];exact gW j hj
   .obtain⟨v,w',β',M,C,J,U,g4⟩:=grow _ _ Na HM dN gW a0 0 0 [] [] ⟨rfl,oS⟩ oS oS (fun _=>⟨rfl,rfl⟩) (bO _) oG kF hk oG;refine⟨.value v,v,w',β',by simp[M],.inl rfl,?_,?_,U,g4⟩
    .simpa using C
    .simp only[cu,Tk];exact J
  rcases hs.xZ hm cP with⟨rfl,rfl,rfl,kB,a0,rfl⟩|⟨b,o,room,hβ,aD,oi⟩
  .exact small a0 rfl rfl rfl
  .rcases oi with⟨rfl,a0,rfl⟩|⟨cap,rfl,C,J,U,g4⟩
   .exact small a0 rfl oG rfl
   .obtain⟨gG,D4,M'⟩:=(aD.rd.1.drop off).A6;have lH:gG.length=n*P.cellsOf E:=by rw[D4.1];simp;omega
    rcases Nat.lt_or_ge cap (n+k) with hg|hg
    .have hk:0<k:=by omega
     obtain⟨v,w',β',M,k1,k2,k3,k4⟩:=grow _ _ Na HM dN gW (some ⟨b,o+off,none⟩) n cap (cs.drop off) gG (D4.step HM) lH (fun ad rS=>by cases rS;exact M') oS C dt kF hk hg;exact⟨.value v,v,w',β',by simp[M],.inl rfl,k1,k2,k3,k4⟩
    ·
      cases aD with
      |cells _ _ _ _ _ _ O D0 um hle bK hh=>
      have akD:(up β i (some .dead)) nx=none:=dN;rcases Nat.eq_zero_or_pos k with rfl|hk
      .have wc:=Kz rfl;subst wc
       obtain⟨q1,q2⟩:=hm.move (w':=w) (nx:=nx) (p':=.cells b (o+off) (cs.drop off).length (room - off) (P.cellsOf E)) hβ rfl rfl hn rfl (fun _ _=>rfl) (.cells (cs.drop off) E) (fun bt=>by
        refine .cells _ E b (o+off) (room - off) _ O D0 oG oP rfl fun j d hj=>?_;rw[List.getElem?_drop] at hj;obtain⟨u,rE,rF,rG⟩:=hh (off+j) d hj
        exact⟨u,by rw[Nat.add_assoc];exact rE,rF.step bt,rG⟩)
       refine⟨.value (.slice (some ⟨b,o+off,none⟩) n cap),_,w,_,by simp[X.zero rfl (some ⟨b,o+off,none⟩) n cap C],.inl rfl,?_,?_,q2,fun j hj oE=>?_⟩
       .have:=R.rs (F:=F) (β:=up (up β i (some .dead)) nx (some (.cells b (o+off) (cs.drop off).length (room - off) (P.cellsOf E)))) (w:=w) nx 0 n cap b (o+off) (cs.drop off).length (room - off) (P.cellsOf E) (au _ _ _) C J oP oG;simpa using this
       .simp only[cu,List.append_nil];exact q1
       .rw[bE _ _ (by simp only at oE;omega)];exact gW j hj
      .have hmul:n*P.cellsOf E+k*P.cellsOf E<=cap*P.cellsOf E:=by rw[<- Nat.add_mul];exact Nat.mul_le_mul_right _ hg
       have lZ:∀ u∈c,u.oneCell'=true:=fun u hu=>by
        obtain⟨j,hj⟩:=dY hu;have dZ:j<news.length:=by rw[<- cF.1];exact(bZ.1 hj).1
        exact(cF.2 j news[j] u (by simp[dZ]) hj).2
       have M:=X.fit hk b (o+off) n cap O D0 hg oG lZ;have jT:news.length=k*P.cellsOf E:=by rw[<- cF.1];exact rR
       have vY:=setRow_heap w b O (O.toList.take (o+off+n*P.cellsOf E)++c++O.toList.drop (o+off+n*P.cellsOf E+c.length)).toArray E (0,0) D0
       have GL:(O.toList.take (o+off+n*P.cellsOf E)++c++O.toList.drop (o+off+n*P.cellsOf E+c.length)).toArray.size=O.size:=by
        simp only[List.size_toArray,List.length_append,List.length_take,List.length_drop,Array.length_toList];omega
       obtain⟨q1,q2⟩:=hm.move (w':=w.setRow b (O.toList.take (o+off+n*P.cellsOf E)++c++O.toList.drop (o+off+n*P.cellsOf E+c.length)).toArray) (nx:=nx) (p':=.cells b (o+off) (cs.drop off++news).length (room - off) (P.cellsOf E)) hβ rfl rfl hn oS (fun j hj=>setRow_other w b j _ hj) (.cells (cs.drop off++news) E) (fun bt=>by
        refine .cells _ E b (o+off) (room - off) _ _ vY (by rw[GL];omega) oP rfl fun j d hj=>?_;have hv:=EQ O.toList (o+off+n*P.cellsOf E) c oP (o+off+j);simp only[List.getElem?_toArray];by_cases aj:j<(cs.drop off).length
        .rw[List.getElem?_append_left aj,List.getElem?_drop] at hj;obtain⟨u,rE,rF,rG⟩:=hh (off+j) d hj;rw[if_pos (by simp at aj;omega)] at hv;exact⟨u,by rw[hv,Nat.add_assoc];simpa using rE,rF.step bt,rG⟩
        .rw[List.getElem?_append_right oG] at hj;have dZ:=(bZ.1 hj).1;simp only[List.length_drop] at hj dZ aj;rw[if_neg oG,if_pos oG,show o+off+j - (o+off+n*P.cellsOf E)=j - (cs.length - off) from by omega] at hv;have Dp:j - (cs.length - off)<c.length:=by omega
         obtain⟨r1,r2⟩:=cF.2 _ d c[j - (cs.length - off)] hj (by simp[Dp])
         exact⟨_,by rw[hv];simp[Dp],r1.step bt,r2⟩)
       refine⟨.value (.slice (some ⟨b,o+off,none⟩) (n+k) cap),_,_,_,by simp[M],.inl rfl,?_,q1,q2,fun j hj oE=>?_⟩
       .refine .rs nx 0 (n+k) cap b (o+off) _ (room - off) _ (au _ _ _) hg J ?_ oG;simp only[List.length_append,List.length_drop];omega
       .rw[bE _ _ (by simp only at oE;omega)];exact gW j hj
theorem Xs(hm:aC P F m β w)(hn:β nx=none){t ty:TypeId}{s x:D}{vs vx:Value}{e:du}(hs:R F β w s vs)(hx:R F β w x vx)(h:p0 P m nx t s x=some e)(hp:e.pre):
 aN P F m nx β w e (do Pure.pure (Next.value (<- Builtin.append_ #[t,t] ty #[vs,vx]))):=by
 unfold p0 at h;simp only at h;cases M:iG m (P.cellsOf (av P t)) x with
 |none=>simp[M] at h
 |some q=>
 obtain⟨p,rd,k,news⟩:=q;simp only[M] at h;cases s with
 |z=>
  simp only[aK] at h;subst h;obtain⟨ht,O,J,dt,kF⟩:=hp;obtain⟨c,U,X⟩:=I5 (ty:=ty) hm hx M O ht J;exact(BX hm hn U X (je ht).2 J).1 hs dt kF
 |rs i off n=>
  simp only at h;cases C:m i with
  |none=>simp[C] at h
  |some r=>
  cases r with
  |map es=>simp[C] at h
  |raw es=>simp[C] at h
  |bs u x T=>simp[C] at h
  |lp k=>simp[C] at h
  |iA f r=>simp[C] at h
  |cells cs e'=>
  simp only[C,aK] at h;subst h;obtain⟨ht,hee,O,J,yq,dt,kF,bU⟩:=hp;subst hee;obtain⟨c,U,X⟩:=I5 (ty:=ty) hm hx M O ht J;exact(BX hm hn U X (je ht).2 J).2.2 i off n cs hs C yq dt kF
 |_=>simp at h
end
theorem JZ{a b:Value}(h:ru a b=true):a=b:=by
 unfold ru at h;split at h
 .simp at h;rw[h.1,h.2]
 .simp at h;rw[h]
 .rename_i a b;simp only[beq_iff_eq] at h;congr 1;cases a;cases b;simp only[ByteArray.mk.injEq];exact Array.ext' (by simpa using h)
 .cases h
theorem JV:∀ {a b:List Value},iX a b=true->a=b
 |[],[],_=>rfl
 |a::aS,b::bs,h=>by
  simp only[iX,ay] at h;rw[JZ h.1,JV h.2]
 |[],_::_,h=>by simp[iX] at h
 |_::_,[],h=>by simp[iX] at h
theorem Sa{a b:Value}(h:tq a b=true):a=b:=by
 unfold tq at h;split at h
 .rw[Array.ext' (JV h)]
 .exact JZ h
def jK:Value->Bool
 | .int _ _ | .bool _ | .string _=>true
 |_=>false
theorem X4{a:Value}(h:jK a=true):ru a a=true:=by
 unfold jK at h;split at h<;>simp_all[ru]
theorem I3:∀ {a:List Value},a.all jK=true->iX a a=true
 |[],_=>rfl
 |a::aS,h=>by
  simp only[List.all_cons,ay] at h;simp[iX,X4 h.1,I3 h.2]
section
variable{P:Program}
structure Gk(P:Program)(t kt et:TypeId):Prop where
 tv:P.underlying t=some (.map kt et)
 elem:aG P et=true
 zero:uP P et=true
 refl:∀ v,dD P kt v=true->tq v v=true
 one:∀ v,dD P kt v=true->v.oneCell'=true\/∃ vs,v=.agg vs
 check:∀ (w:World) (em:Bool) (v:Value),dD P kt v=true->(Instr.checkKey em 10000 kt v).run P w=.ok () w
 find:∀ (w:World) (x:Value),dD P kt x=true->∀ es:List MapEntry,(∀ e∈es,dD P kt e.key=true)->
  ((Instr.findKey kt x es).run P w=.ok none w/\∀ e∈es,e.key≠x)\/∃ j e,(Instr.findKey kt x es).run P w=.ok (some (j,e.val)) w/\es[j]? =some e/\e.key=x
 stays:∀ (w:World) (v:Value),dD P kt v=true->(Instr.keyThatStays v v).run P w=.ok v w
theorem Iu{t kt et:TypeId}{d:TypeDesc}(hu:P.underlying t=some (.map kt et))(he:aG P et=true)(hz:uP P et=true)(hd:P.underlying kt=some d)(hk:∀ v,dD P kt v=true↔MapKept.IsKey d v):Gk P t kt et where
 tv:=hu
 elem:=he
 zero:=hz
 refl:=fun v h=>by
  have:=(hk v).1 h;cases d<;>cases v<;>simp_all[MapKept.IsKey,tq,ru]
 one:=fun v h=>by
  have:=(hk v).1 h;left;cases d<;>cases v<;>simp_all[MapKept.IsKey,Value.oneCell']
 check:=fun w em v h=>MapKept.run_checkKey hd ((hk v).1 h) em 9999
 find:=fun w x hx es J=>by
  rcases MapKept.findNow_spec ((hk x).1 hx) es 0 (fun e he=>(hk _).1 (J e he)) with⟨h1,h2⟩|⟨j,e,h1,h2,C⟩
  .exact .inl ⟨MapKept.run_findKey hd h1,h2⟩
  .exact .inr ⟨j,e,by have:=MapKept.run_findKey (P:=P) (w:=w) hd h1;simpa using this,h2,C⟩
 stays:=fun w v h=>MapKept.run_keyThatStays ((hk v).1 h)
theorem Ow{t kt et:TypeId}(hu:P.underlying t=some (.map kt et))(he:aG P et=true)(hz:uP P et=true)(J:(match P.underlying kt with|some (.array _ _)|some (.struct _)=>true|_=>false)=true)
 (h1:P.keyTypeAt 9 kt=true) (h2:P.tiled 9 kt=true):Gk P t kt et:=by
 have C:=deep_law (P:=P) (m:=9) oG h1 h2 J
 have hk:∀ v,dD P kt v=true↔∃ l,keyOf P kt v=some l:=fun v=>by
  unfold dD;split at J
  .simp_all[Option.isSome_iff_exists]
  .simp_all[Option.isSome_iff_exists]
  .cases J
 refine⟨hu,he,hz,fun v h=>?_,fun v h=>?_,fun w em v h=>?_,fun w x hx es O=>?_,fun w v h=>?_⟩
 .obtain⟨l,hl⟩:=(hk v).1 h;obtain⟨xs,L,rfl,M,_⟩:=keyOf_top J hl;have:=cells_of_lits 9 kt h2 _ _ _ M;simp only[tq];rw[this];refine I3 (b7.2 fun u hu=>?_);obtain⟨l,_,rfl⟩:=List.mem_map.1 hu;cases l<;>rfl
 .obtain⟨l,hl⟩:=(hk v).1 h;obtain⟨xs,L,rfl,_⟩:=keyOf_top J hl;exact .inr ⟨xs,rfl⟩
 .obtain⟨l,hl⟩:=(hk v).1 h;exact C.check w em hl
 .obtain⟨l,hl⟩:=(hk x).1 hx;exact C.find w hl es fun e he=>(hk _).1 (O e he)
 .obtain⟨l,hl⟩:=(hk v).1 h;exact C.stays w hl
theorem zU{t:TypeId}(h:jv P t=true):Gk P t (gC P t) (sW P t):=by
 unfold jv at h;split at h
 .rename_i kt et hu;have C:gC P t=kt:=by simp[gC,hu]
  have e2:sW P t=et:=by simp[sW,hu]
  rw[C,e2];simp only[ay] at h;obtain⟨⟨h1,hz⟩,h2⟩:=h;split at h2
  .rename_i hd;exact Iu hu h1 hz hd fun v=>by unfold dD;rw[hd];cases v<;>simp[MapKept.IsKey]
  .rename_i hd;exact Iu hu h1 hz hd fun v=>by unfold dD;rw[hd];cases v<;>simp[MapKept.IsKey]
  .rename_i hd;exact Iu hu h1 hz hd fun v=>by unfold dD;rw[hd];cases v<;>simp[MapKept.IsKey]
  .rename_i hd;simp only[ay] at h2;exact Ow hu h1 hz (by rw[hd]) h2.1 h2.2
  .rename_i hd;simp only[ay] at h2;exact Ow hu h1 hz (by rw[hd]) h2.1 h2.2
  .cases h2
 .cases h
theorem ON{k:Value}:∀ {es:List (Value×D)},gp k es=none->∀ e∈es,tq e.1 k=false
 |[],_,e,he=>by cases he
 |(k',d)::es,h,e,he=>by
  simp only[gp] at h;split at h
  .cases h
  .rename_i C;simp only[Option.map_eq_none_iff] at h;rcases List.mem_cons.1 he with rfl|he
   .simpa using C
   .exact ON h e he
theorem IM{k:Value}:∀ {es:List (Value×D)} {j:Nat} {d:D},gp k es=some (j,d)->∃ k',es[j]? =some (k',d)/\tq k' k=true
 |[],j,d,h=>by simp[gp] at h
 |(k',d')::es,j,d,h=>by
  simp only[gp] at h;split at h
  .rename_i hv;simp only[aK,cq] at h;obtain⟨rfl,rfl⟩:=h;exact⟨k',rfl,hv⟩
  .simp only[dm] at h;obtain⟨⟨U,J⟩,h1,h2⟩:=h;simp only[cq] at h2;obtain⟨rfl,rfl⟩:=h2;obtain⟨C,M,O⟩:=IM h1;exact⟨C,by simpa using M,O⟩
theorem B7{t kt et:TypeId}(L:Gk P t kt et)(w:World){key:Value}(hk:dD P kt key=true){es:List (Value×D)}(nN:es.all (fun e=>dD P kt e.1)=true){ms:List MapEntry}(hl:ms.length=es.length)
 (X:∀ (k:Nat) (x:Value×D) (m:MapEntry),es[k]? =some x->ms[k]? =some m->m.key=x.1) (ef:(es.map (·.1)).Nodup):
 (gp key es=none/\(Instr.findKey kt key ms).run P w=.ok none w/\(∀ e∈es,e.1≠key))\/
 ∃ j d e,gp key es=some (j,d)/\(Instr.findKey kt key ms).run P w=.ok (some (j,e.val)) w/\ms[j]? =some e/\e.key=key/\es[j]? =some (key,d):=by
 have hms:∀ e∈ms,dD P kt e.key=true:=fun e he=>by
  obtain⟨k,C⟩:=dY he;have aj:k<es.length:=by rw[<- hl];exact(bZ.1 C).1
  rw[X k es[k] e (by simp[aj]) C];exact b7.1 nN _ (df aj)
 rcases L.find w key hk ms hms with⟨h1,h2⟩|⟨j,e,h1,h2,O⟩
 .left
  have a8:∀ e∈es,e.1≠key:=fun e he hke=>by
   obtain⟨k,C⟩:=dY he;have aj:k<ms.length:=by rw[hl];exact(bZ.1 C).1
   exact h2 ms[k] (df aj) ((X k e ms[k] C (by simp[aj])).trans hke)
  refine⟨?_,h1,a8⟩;cases U:gp key es with
  |none=>rfl
  |some x=>
   obtain⟨j,d⟩:=x;obtain⟨k',O,J⟩:=IM U;exact absurd (Sa J) (a8 _ (cX O))
 .right;have aj:j<es.length:=by rw[<- hl];exact(bZ.1 h2).1
  have hej:es[j]? =some es[j]:=by simp[aj]
  have M:es[j].1=key:=(X j es[j] e hej h2).symm.trans O;cases U:gp key es with
  |none=>
   have:=ON U es[j] (df aj);rw[M,L.refl key hk] at this;cases this
  |some x=>
   obtain⟨j',d⟩:=x;obtain⟨k',J,h5⟩:=IM U;have C:=Sa h5;subst C;have kz:j'<es.length:=(bZ.1 J).1
   have DY:j'=j:=by
    refine(List.getElem_inj (h₀:=by simpa using kz) (h₁:=by simpa using aj) ef).1 ?_;simp only[List.getElem_map];have:=(bZ.1 J).2;rw[this,M]
   subst DY;exact⟨j',d,e,rfl,h1,h2,O,J⟩
variable{F:Nat->Prop}{m:Mem}{nx:Nat}{β:az}{w:World}
theorem Q6:∀ {cs:List D} {vs us:List Value},AI cs=some vs->us.length=cs.length->(∀ (k:Nat) (d:D) (u:Value),cs[k]? =some d->us[k]? =some u->R F β w d u)->us=vs
 |[],vs,us,h,hl,_=>by
  simp[AI] at h;subst h;simpa using hl
 |d::cs,vs,us,h,hl,hr=>by
  cases us with
  |nil=>simp at hl
  |cons u us=>
   have h0:=hr 0 d u rfl rfl;cases d with
   |s v=>
    simp only[AI,dm] at h;obtain⟨C,h1,rfl⟩:=h;rw[h0.cJ.1,Q6 (us:=us) h1 (by simpa using hl) fun k d u hd hu=>hr (k+1) d u (by simpa using hd) (by simpa using hu)]
   |_=>simp[AI] at h
theorem Az{d:D}{key v:Value}(hk:nD d=some key)(h:R F β w d v):v=key:=by
 unfold nD at hk;split at hk
 .rw[h.cJ.1];simpa using hk
 .obtain⟨us,rfl,hl,hr⟩:=h.qM;simp only[dm] at hk;obtain⟨vs,h1,rfl⟩:=hk;rw[Q6 h1 hl hr]
 .cases hk
theorem R.CA(hm:aC P F m β w){i:Nat}{es:List (Value×D)}{v:Value}(h:R F β w (.mp i) v)(hi:m i=some (.map es)):
 ∃ r ms clock,β i=some (.map r)/\v=.map (some r)/\w.heap[r]? =some (.map ms clock)/\ms.size=es.length/\(es.map (·.1)).Nodup/\
  ∀ (k:Nat) (x:Value×D) (m:MapEntry),es[k]? =some x->ms[k]? =some m->m.key=x.1/\R F β w x.2 m.val:=by
 obtain⟨p,hp,aD⟩:=hm.row i _ hi;cases h with
 |y6 _ _ h _=>rw[h] at hp;cases hp;cases aD
 |mp _ r h=>
  rw[h] at hp;cases hp;cases aD with
  |map _ _ ms clock h1 h2 C J=>exact⟨r,ms,clock,h,rfl,h1,h2,C,J⟩
theorem R.aca{es:List (Value×D)}{v:Value}(h:R F β w (.im es) v):
 ∃ r ms clock,v=.map (some r)/\w.heap[r]? =some (.map ms clock)/\ms.size=es.length/\(es.map (·.1)).Nodup/\
  ∀ (k:Nat) (x:Value×D) (m:MapEntry),es[k]? =some x->ms[k]? =some m->m.key=x.1/\R F β w x.2 m.val:=by
 cases h with
 |im _ r ms clock hf hb hc hl ef hk hh=>exact⟨r,ms,clock,rfl,hc,hl,ef,fun k x m hx hm=>⟨hk k x m hx hm,hh k x m hx hm⟩⟩
theorem FE{t:TypeId}(ht:aG P t=true)(C:uP P t=true):∃ v,(zeroValue t).run P w=.ok v w/\R F β w (qZ P t) v:=by
 obtain⟨i,d,z,hi,_,hz,rO,jA,O,_,_,h4⟩:=qI ht;obtain⟨U,X⟩:=xY (F:=F) (β:=β) (w:=w) O h4;refine⟨z,by simp[zeroValue,typeInfo,hi,hz],?_⟩;unfold qZ;unfold uP at C;simp only[hi,Option.bind_some,hz] at C
 have single:(∀ cs,z≠ .agg cs)->bG P t=false->R F β w ((aZ P t).headD .u) z:=fun J ha=>by
  have hc:z.cells.toList=[z]:=by cases z<;>first|rfl|exact absurd rfl (J _)
  have:aZ P t=[jM z]:=by rw[O,hc];rfl
  rw[this];exact Kw z
 split at C
 .rename_i cs M;simp only[aK] at M;subst M;rw[if_pos C];have:=R.agg (F:=F) (β:=β) (w:=w) (aZ P t) cs.toList (by simpa[Value.cells] using U) fun k d u hd hu=>(X k d u hd (by simpa[Value.cells] using hu)).1;simpa using this
 .rename_i u J hu;simp only[Bool.not_eq_true'] at C;simp only[aK] at hu;rw[if_neg (by simp[C])];exact single (fun cs h=>J cs (by rw[<- hu,h])) C
 .cases C
theorem Xh(hm:aC P F m β w){t:TypeId}{x k:D}{ok:Bool}{vx O:Value}(hx:R F β w x vx)(hk:R F β w k O){e:du}(h:ng P m t x k ok=some e)(hp:e.pre):
 aN P F m nx β w e (do Pure.pure (Next.value (<- Instr.lookup t vx O ok))):=by
 unfold ng at h;split at h
 .rename_i key i J;rw[Az J hk];split at h
  .rename_i es hi;cases h;obtain⟨h1,h2,M⟩:=hp;have L:=zU h1;obtain⟨r,ms,clock,U,rfl,hb,hl,ef,hh⟩:=hx.CA hm hi;obtain⟨z,hz,C⟩:=FE (F:=F) (β:=β) (w:=w) L.elem L.zero;rcases B7 L w h2 M (ms:=ms.toList) (by simpa using hl) (fun k x m hx hm=>(hh k x m hx (by simpa using hm)).1) ef with⟨f1,f2,_⟩|⟨j,d,en,f1,f2,f3,f4,f5⟩
   .refine⟨.value (if ok then .tuple #[z,.bool false] else z),_,w,β,?_,.inl rfl,?_,hm,Step.refl β w,fun _ h _=>h⟩
    .simp[Instr.lookup,run_underlying L.tv,MapKept.run_getObj_map hb,L.check w _ key h2,f2,hz]
    .simp only[f1,jN];cases ok
     .exact C
     .exact .bp _ [z,.bool false] rfl fun k d u hd hu=>by
       match k with
       |0=>simp at hd hu;subst hd;subst hu;exact C
       |1=>simp at hd hu;subst hd;subst hu;exact .s _ rfl
       |k+2=>simp at hd
   .have hv:=(hh j _ en f5 (by simpa using f3)).2;refine⟨.value (if ok then .tuple #[en.val,.bool true] else en.val),_,w,β,?_,.inl rfl,?_,hm,Step.refl β w,fun _ h _=>h⟩
    .simp[Instr.lookup,run_underlying L.tv,MapKept.run_getObj_map hb,L.check w _ key h2,f2]
    .simp only[f1,jN];cases ok
     .exact hv
     .exact .bp _ [en.val,.bool true] rfl fun k d u hd hu=>by
       match k with
       |0=>simp at hd hu;subst hd;subst hu;exact hv
       |1=>simp at hd hu;subst hd;subst hu;exact .s _ rfl
       |k+2=>simp at hd
  .cases h
 .rename_i key es J;rw[Az J hk]
  .cases h;obtain⟨h1,h2,M⟩:=hp;have L:=zU h1;obtain⟨r,ms,clock,rfl,hb,hl,ef,hh⟩:=hx.aca;obtain⟨z,hz,C⟩:=FE (F:=F) (β:=β) (w:=w) L.elem L.zero;rcases B7 L w h2 M (ms:=ms.toList) (by simpa using hl) (fun k x m hx hm=>(hh k x m hx (by simpa using hm)).1) ef with⟨f1,f2,_⟩|⟨j,d,en,f1,f2,f3,f4,f5⟩
   .refine⟨.value (if ok then .tuple #[z,.bool false] else z),_,w,β,?_,.inl rfl,?_,hm,Step.refl β w,fun _ h _=>h⟩
    .simp[Instr.lookup,run_underlying L.tv,MapKept.run_getObj_map hb,L.check w _ key h2,f2,hz]
    .simp only[f1,jN];cases ok
     .exact C
     .exact .bp _ [z,.bool false] rfl fun k d u hd hu=>by
       match k with
       |0=>simp at hd hu;subst hd;subst hu;exact C
       |1=>simp at hd hu;subst hd;subst hu;exact .s _ rfl
       |k+2=>simp at hd
   .have hv:=(hh j _ en f5 (by simpa using f3)).2;refine⟨.value (if ok then .tuple #[en.val,.bool true] else en.val),_,w,β,?_,.inl rfl,?_,hm,Step.refl β w,fun _ h _=>h⟩
    .simp[Instr.lookup,run_underlying L.tv,MapKept.run_getObj_map hb,L.check w _ key h2,f2]
    .simp only[f1,jN];cases ok
     .exact hv
     .exact .bp _ [en.val,.bool true] rfl fun k d u hd hu=>by
       match k with
       |0=>simp at hd hu;subst hd;subst hu;exact hv
       |1=>simp at hd hu;subst hd;subst hu;exact .s _ rfl
       |k+2=>simp at hd
 .rename_i key J;rw[Az J hk];cases h;obtain⟨h1,h2⟩:=hp;have L:=zU h1;rw[hx.cJ.1];obtain⟨z,hz,C⟩:=FE (F:=F) (β:=β) (w:=w) L.elem L.zero;rcases B7 L w h2 (es:=[]) rfl (ms:=[]) rfl oS oS with⟨f1,f2,_⟩|⟨j,d,en,f1,f2,f3,f4,f5⟩
  .refine⟨.value (if ok then .tuple #[z,.bool false] else z),_,w,β,?_,.inl rfl,?_,hm,Step.refl β w,fun _ h _=>h⟩
   .simp[Instr.lookup,run_underlying L.tv,L.check w _ key h2,f2,hz]
   .simp only[jN];cases ok
    .exact C
    .exact .bp _ [z,.bool false] rfl fun k d u hd hu=>by
      match k with
      |0=>simp at hd hu;subst hd;subst hu;exact C
      |1=>simp at hd hu;subst hd;subst hu;exact .s _ rfl
      |k+2=>simp at hd
  .simp at f5
 .cases h
theorem Xi{w:World}{r:Nat}{o o':Obj}(hb:w.heap[r]? =some o):(w.heap.setIfInBounds r o').size=w.heap.size/\(w.heap.setIfInBounds r o')[r]? =some o'/\∀ k,k≠r->(w.heap.setIfInBounds r o')[k]? =w.heap[k]? :=
 ⟨oS,(MapKept.heap_set hb).1,fun k hk=>(MapKept.heap_set hb).2 k hk⟩
theorem EZ(hm:aC P F m β w){i r:Nat}{ms:Array MapEntry}{clock:Nat}(C:β i=some (.map r))(hb:w.heap[r]? =some (.map ms clock)){es':List (Value×D)}{ms':Array MapEntry}{clock':Nat}
 (hl:ms'.size=es'.length) (ef:(es'.map (·.1)).Nodup) (hh:∀ (k:Nat) (x:Value×D) (m:MapEntry),es'[k]? =some x->ms'[k]? =some m->m.key=x.1/\R F β w x.2 m.val):
 aC P F (up m i (some (.map es'))) β { w with heap:=w.heap.setIfInBounds r (.map ms' clock') }/\Step β w β { w with heap:=w.heap.setIfInBounds r (.map ms' clock') }:=by
 obtain⟨J,X,M⟩:=Xi (o':=.map ms' clock') hb;have hs:=B2 (w':={ w with heap:=w.heap.setIfInBounds r (.map ms' clock') }) hm C rfl (by simp[J]) M;refine⟨hm.write C rfl J M _ (.map es' r ms' clock' X hl ef fun k x U hx O=>?_),hs⟩;obtain⟨h1,h2⟩:=hh k x U hx O;exact⟨h1,h2.step hs⟩
theorem OO(hm:aC P F m β w){t:TypeId}{x k v:D}{vx vk M:Value}(hx:R F β w x vx)(hk:R F β w k vk)(hv:R F β w v M){e:du}(h:nh P m t x k v=some e)(hp:e.pre):
 aN P F m nx β w e (do Instr.mapUpdate t vx vk M;Pure.pure Next.skip):=by
 unfold nh at h;split at h
 .rename_i key i uC;rw[Az uC hk];split at h
  .rename_i es hi;cases h;obtain⟨h1,h2,h3⟩:=hp;have L:=zU h1;obtain⟨r,ms,clock,hβ,rfl,hb,hl,ef,hh⟩:=hx.CA hm hi;rcases B7 L w h2 h3 (ms:=ms.toList) (by simpa using hl) (fun k x m hx hm=>(hh k x m hx (by simpa using hm)).1) ef with⟨f1,f2,f3⟩|⟨j,d,en,f1,f2,f3,f4,f5⟩
   .obtain⟨O,U⟩:=EZ (P:=P) hm hβ hb (es':=lY key v es) (ms':=ms.push { key,val:=M,born:=clock }) (clock':=clock+1) (by simp[lY,f1,hl])
     (by
      simp only[lY,f1,List.map_append,List.map_cons,List.map_nil];rw[List.nodup_append];refine⟨ef,oS,fun a ha b l8=>?_⟩;simp only[List.mem_singleton] at l8;subst l8;obtain⟨y,hy,rfl⟩:=List.mem_map.1 ha
      exact f3 y hy)
     (fun k x X hx C=>by
      simp only[lY,f1] at hx;rcases Nat.lt_or_ge k es.length with aj|bL
      .rw[List.getElem?_append_left aj] at hx;rw[Array.getElem?_push_lt oG] at C;exact hh k x X hx (by rw[<- C];simp[show k<ms.size by omega])
      .rw[List.getElem?_append_right bL] at hx
       have Bp:k - es.length=0:=by
        have:=(bZ.1 hx).1;simp at this;omega
       rw[Bp] at hx;simp at hx;subst hx;have:k=ms.size:=by omega
       subst this;simp at C;subst C
       exact⟨rfl,hv⟩)
    exact⟨.skip,undef,_,β,by simp[Instr.mapUpdate,run_underlying L.tv,MapKept.run_getObj_map hb,L.check w _ key h2,f2,MapKept.run_setObj_map _ hb],.inr ⟨rfl,rfl⟩,.bp [] [] rfl oS,O,U,fun _ h _=>h⟩
   .have Hb:j<es.length:=(bZ.1 f5).1
    obtain⟨O,U⟩:=EZ (P:=P) hm hβ hb (es':=lY key v es) (ms':=ms.modify j fun e=>{ e with key:=key,val:=M }) (clock':=clock) (by simp[lY,f1,hl])
     (by
      have:(lY key v es).map (·.1)=es.map (·.1):=by
       simp only[lY,f1,List.map_set]
       have h5:(es.map (·.1))[j]'(by simpa using Hb)=key:=by
        have:=(bZ.1 f5).2;simp[this]
       rw[<- h5];exact List.set_getElem_self _
      rw[this];exact ef)
     (fun k x X hx C=>by
      simp only[lY,f1] at hx;rw[Array.getElem?_modify] at C;by_cases J:k=j
      .subst J;simp only[if_pos] at C;rw[List.getElem?_set_self Hb] at hx;simp only[aK] at hx;subst hx;simp only[dm] at C;obtain⟨en',_,rfl⟩:=C;exact⟨rfl,hv⟩
      .rw[if_neg (Ne.symm J)] at C;rw[List.getElem?_set_ne (Ne.symm J)] at hx
       exact hh k x X hx C)
    have hj:ms[j]? =some en:=by simpa using f3
    exact⟨.skip,undef,_,β,by simp[Instr.mapUpdate,run_underlying L.tv,MapKept.run_getObj_map hb,L.check w _ key h2,f2,hj,f4,L.stays w key h2,MapKept.run_setObj_map _ hb],.inr ⟨rfl,rfl⟩,.bp [] [] rfl oS,O,U,fun _ h _=>h⟩
  .cases h
 .cases h
theorem aa8{ts:Array TypeId}(h:ts.size≠0):ts[0]? =some (ts.getD 0 0):=by
 have:0<ts.size:=by omega
 simp[Array.getD_eq_getD_getElem?,this]
theorem Xj(hm:aC P F m β w){ts:Array TypeId}{ty:TypeId}(lJ:ts.size≠0){x k:D}{vx vk:Value}(hx:R F β w x vx)(hk:R F β w k vk){e:du}(h:tR P m (ts.getD 0 0) x k=some e)(hp:e.pre):
 aN P F m nx β w e (do Pure.pure (Next.value (<- Builtin.delete_ ts ty #[vx,vk]))):=by
 have rP:=aa8 lJ;generalize ts.getD 0 0=t at*
 unfold tR at h;split at h
 .rename_i key i uC;rw[Az uC hk];split at h
  .rename_i es hi;cases h;obtain⟨h1,h2,h3⟩:=hp;have L:=zU h1;obtain⟨r,ms,clock,hβ,rfl,hb,hl,ef,hh⟩:=hx.CA hm hi;rcases B7 L w h2 h3 (ms:=ms.toList) (by simpa using hl) (fun k x m hx hm=>(hh k x m hx (by simpa using hm)).1) ef with⟨f1,f2,f3⟩|⟨j,d,en,f1,f2,f3,f4,f5⟩
   .obtain⟨O,U⟩:=EZ (P:=P) hm hβ hb (es':=sV key es) (ms':=ms) (clock':=clock) (by simp[sV,f1,hl]) (by simpa[sV,f1] using ef) (fun k x M hx C=>hh k x M (by simpa[sV,f1] using hx) C);exact⟨.value (.tuple #[]),.tuple #[],_,β,by simp[Builtin.delete_,rP,run_underlying L.tv,MapKept.run_getObj_map hb,L.check w _ key h2,f2,MapKept.run_setObj_map _ hb],.inl rfl,.bp [] [] rfl oS,O,U,fun _ h _=>h⟩
   .have Hb:j<es.length:=(bZ.1 f5).1;have X:j<ms.size:=by omega
    have he:∀ k,(ms.eraseIdxIfInBounds j)[k]? =if k<j then ms[k]? else ms[k+1]? :=fun k=>by
     have h0:(ms.eraseIdxIfInBounds j).toList=ms.toList.eraseIdx j:=by simp[Array.eraseIdxIfInBounds,X]
     rw[<- Array.getElem?_toList,h0,List.getElem?_eraseIdx];simp
    obtain⟨O,U⟩:=EZ (P:=P) hm hβ hb (es':=sV key es) (ms':=ms.eraseIdxIfInBounds j) (clock':=clock) (by simp[sV,f1,Array.eraseIdxIfInBounds,X,hl,List.length_eraseIdx,Hb])
     (by simp only[sV,f1];exact List.Nodup.sublist ((List.eraseIdx_sublist es j).map _) ef)
     (fun k x M hx C=>by
      simp only[sV,f1,List.getElem?_eraseIdx] at hx;rw[he] at C;split at hx
      .rename_i J;rw[if_pos J] at C;exact hh k x M hx C
      .rename_i J;rw[if_neg J] at C;exact hh (k+1) x M hx C)
    exact⟨.value (.tuple #[]),.tuple #[],_,β,by simp[Builtin.delete_,rP,run_underlying L.tv,MapKept.run_getObj_map hb,L.check w _ key h2,f2,MapKept.run_setObj_map _ hb],.inl rfl,.bp [] [] rfl oS,O,U,fun _ h _=>h⟩
  .cases h
 .cases h
end
theorem OM{a b:Value}(h:yi a b=true):jK a=true/\jK b=true:=by
 unfold yi at h;split at h<;>first|exact⟨rfl,rfl⟩|cases h
def AP(xs ys:List Value):Prop:=xs.length=ys.length/\∀ (k:Nat) (x y:Value),xs[k]? =some x->ys[k]? =some y->yi x y=true
section
variable{P:Program}
theorem Xg{xs ys:List Value}(h:AP xs ys):(∀ x∈xs,jK x=true)/\∀ y∈ys,jK y=true:=by
 refine⟨fun x hx=>?_,fun y hy=>?_⟩
 .obtain⟨k,hk⟩:=dY hx;have aj:k<ys.length:=by rw[<- h.1];exact(bZ.1 hk).1
  exact(OM (h.2 k x ys[k] hk (by simp[aj]))).1
 .obtain⟨k,hk⟩:=dY hy;have aj:k<xs.length:=by rw[h.1];exact(bZ.1 hk).1
  exact(OM (h.2 k xs[k] y (by simp[aj]) hk)).2
theorem X2(w:World)(d:Nat){t:TypeId}(ht:sU P t=true){x y:Value}(hx:jJ x=vZ P t)(hk:yi x y=true):
 ∃ r:Bool,(Op.equalIn (d+1) t x y).run P w=.ok r w/\(r=true↔x=y):=by
 unfold yi at hk;unfold vZ at hx;split at hk
 .rename_i k a k' b;simp only[beq_iff_eq] at hk;subst hk;split at hx<;>simp[jJ] at hx;rename_i hu;exact⟨a==b,run_equalIn_int w d t _ _ a b hu,oS⟩
 .rename_i a b;split at hx<;>simp[jJ] at hx;rename_i hu;exact⟨a==b,run_equalIn_bool' w d t a b hu,oS⟩
 .rename_i a b;split at hx<;>simp[jJ] at hx;rename_i hu;refine⟨a==b,?_,?_⟩
  .rw[run_equalIn_string w d t a b hu,beq_toListBytes]
  .rw[MapKept.bytes_beq];simp
 .cases hk
theorem step_eq(w:World)(d:Nat){t:TypeId}(ht:sU P t=true){xs ys:Array Value}(hk:AP xs.toList ys.toList){off:Nat}(C:off<xs.size)(M:∀ x,xs.toList[off]? =some x->jJ x=vZ P t):
 ∃ a b r,(part t xs off).run P w=.ok a w/\(part t ys off).run P w=.ok b w/\(Op.equalIn (d+1) t a b).run P w=.ok r w/\(r=true↔xs.toList[off]? =ys.toList[off]?):=by
 have bK:xs.size=ys.size:=by simpa using hk.1
 have h0:=ht;simp only[sU,ay,Bool.not_eq_true'] at h0;have J:off<ys.size:=by omega
 obtain⟨r,hr,O⟩:=X2 (P:=P) w d ht (x:=xs[off]) (y:=ys[off]) (M _ (by simp[C])) (hk.2 off _ _ (by simp[C]) (by simp[J]));refine⟨xs[off],ys[off],r,?_,?_,hr,?_⟩
 .unfold part;simp[B4 w (z7 h0.1.2),h0.2,C]
 .unfold part;simp[B4 w (z7 h0.1.2),h0.2,J]
 .rw[O];simp[C,J]
theorem Ot(w:World)(d:Nat){e:TypeId}(ht:sU P e=true){xs ys:Array Value}(hk:AP xs.toList ys.toList):∀ (is:List Nat),(∀ i∈is,i<xs.size/\∀ x,xs.toList[i]? =some x->jJ x=vZ P e)->
 ∃ r:Bool,(Op.eqItems (d+1) e (P.cellsOf e) xs ys is).run P w=.ok r w/\(r=true↔∀ i∈is,xs.toList[i]? =ys.toList[i]?)
 |[],_=>⟨true,by simp[Op.eqItems],oS⟩
 |i::is,h=>by
  have hc:P.cellsOf e=1:=by simp only[sU,ay,beq_iff_eq] at ht;exact ht.1.1.2
  obtain⟨a,b,r,U,X,p3,C⟩:=step_eq w d ht hk (h i oS).1 (h i oS).2;obtain⟨r',J,M⟩:=Ot w d ht hk is fun j hj=>h j (by simp[hj]);rw[hc] at J ⊢;simp only[Op.eqItems,Nat.mul_one,Sem.run_bind,U,X,p3,Result.andThen_ok];cases r
  .refine⟨false,oS,?_⟩;simp only[Bool.false_eq_true,false_iff] at C ⊢;intro O;exact C (O i oS)
  .refine⟨r',by simpa using J,?_⟩;rw[M]
   exact⟨fun h j hj=>by
    rcases List.mem_cons.1 hj with rfl|hj
    .exact C.1 rfl
    .exact h j hj,fun h j hj=>h j (by simp[hj])⟩
theorem Oh(w:World)(d:Nat){xs ys:Array Value}(hk:AP xs.toList ys.toList):∀ (fs:List Field),(∀ f∈fs,f.name≠"_"/\sU P f.type=true/\f.offset<xs.size/\∀ x,xs.toList[f.offset]? =some x->jJ x=vZ P f.type)->
 ∃ r:Bool,(Op.eqFields (d+1) xs ys fs).run P w=.ok r w/\(r=true↔∀ f∈fs,xs.toList[f.offset]? =ys.toList[f.offset]?)
 |[],_=>⟨true,by simp[Op.eqFields],oS⟩
 |f::fs,h=>by
  obtain⟨hn,ht,ho,zd⟩:=h f oS;obtain⟨a,b,r,U,X,p3,C⟩:=step_eq w d ht hk ho zd;obtain⟨r',O,J⟩:=Oh w d hk fs fun g hg=>h g (by simp[hg]);simp only[Op.eqFields,hn,ne_eq,not_false_eq_true,if_true,Sem.run_bind,U,X,p3,Result.andThen_ok];cases r
  .refine⟨false,oS,?_⟩;simp only[Bool.false_eq_true,false_iff] at C ⊢;intro M;exact C (M f oS)
  .refine⟨r',by simpa using O,?_⟩;rw[J]
   exact⟨fun h j hj=>by
    rcases List.mem_cons.1 hj with rfl|hj
    .exact C.1 rfl
    .exact h j hj,fun h j hj=>h j (by simp[hj])⟩
theorem Zv:∀ {a b:List Value},a.all jK=true->(iX a b=true↔a=b):=fun h=>⟨JV,fun e=>by subst e;exact I3 h⟩
theorem Ou(w:World){t:TypeId}{ks:List Nat}(ht:AH P t=some ks){xs ys:List Value}(hk:AP xs ys)(M:xs.map jJ=ks):
 (Op.equal t (.agg xs.toArray) (.agg ys.toArray)).run P w=.ok (iX xs ys) w:=by
 obtain⟨s1,s2⟩:=Xg hk;have bT:xs.all jK=true:=b7.2 s1
 have fin:∀ r:Bool,(r=true↔xs=ys)->r=iX xs ys:=fun r h=>by
  have:=Zv (b:=ys) bT;cases r<;>cases hv:iX xs ys<;>simp_all
 unfold AH at ht;split at ht
 .rename_i n e hu;split at ht
  .rename_i hc;simp only[ay,beq_iff_eq] at hc;simp only[aK] at ht;subst ht;have hlen:xs.length=n:=by have:=congrArg List.length M;simpa using this
   have J:=hc.1;obtain⟨i,hi⟩:=Option.isSome_iff_exists.1 (iH (show aG P e=true by simp only[sU,ay] at J;exact J.1.2))
   obtain⟨r,hr,pv⟩:=Ot (P:=P) w 9998 J (xs:=xs.toArray) (ys:=ys.toArray) (by simpa using hk) (List.range n) fun i hi=>by
    simp only[List.mem_range] at hi;refine⟨by simp;omega,fun x hx=>?_⟩;have:(xs.map jJ)[i]? =some (jJ x):=by simp at hx;simp[hx]
    rw[M] at this;simp[List.getElem?_replicate,hi] at this;exact this.symm
   have U:=run_equalIn_array (P:=P) (w:=w) 9999 (t:=t) (e:=e) (n:=n) xs.toArray ys.toArray hu hi;show(Op.equalIn (9999+1) t _ _).run P w=_;rw[U,hr,fin r];rw[pv];constructor
   .intro h;apply List.ext_getElem?;intro i;rcases Nat.lt_or_ge i n with aj|bL
    .simpa using h i (by simpa using aj)
    .rw[List.getElem?_eq_none oG,List.getElem?_eq_none (by rw[<- hk.1];omega)]
   .rintro rfl i _;rfl
  .cases ht
 .rename_i fs hu;split at ht
  .rename_i hc;simp only[ay,beq_iff_eq,b7,bne_iff_ne,ne_eq,Bool.not_eq_true'] at hc;obtain⟨⟨hf,O⟩,bt⟩:=hc;simp only[aK] at ht;subst ht;have hlen:xs.length=fs.toList.length:=by have:=congrArg List.length M;simpa using this
   have nE:∀ (l:List Field) (o:Nat),P.runs o l=some (o+l.length)->(∀ f∈l,P.cellsOf f.type=1)->∀ (j:Nat) (f:Field),l[j]? =some f->f.offset=o+j:=by
    intro l
    induction l with
    |nil=>intro o _ _ j f hj;simp at hj
    |cons g l ih=>
     intro o ho h1 j f hj;simp only[Program.runs] at ho;split at ho
     .rename_i X;have DW:=h1 g oS;rw[DW] at ho;cases j with
      |zero=>simp at hj;subst hj;simpa using X
      |succ j=>
       have:=ih (o+1) (by rw[ho];simp;omega) (fun f hf=>h1 f (by simp[hf])) j f (by simpa using hj);omega
     .cases ho
   have J:∀ f∈fs.toList,P.cellsOf f.type=1:=fun f C=>by
    have:=(hf f C).2;simp only[sU,ay,beq_iff_eq] at this;exact this.1.1.2
   have kA:=nE fs.toList 0 (by simpa using O) J
   obtain⟨r,hr,pv⟩:=Oh (P:=P) w 9998 (xs:=xs.toArray) (ys:=ys.toArray) (by simpa using hk) fs.toList fun f C=>by
    obtain⟨j,hj⟩:=dY C;have dZ:j<fs.toList.length:=(bZ.1 hj).1;have ho:f.offset=j:=by have:=kA j f hj;omega
    refine⟨(hf f C).1,(hf f C).2,by rw[ho];simp;simp at hlen dZ;omega,fun x hx=>?_⟩;rw[ho] at hx;have h1:(xs.map jJ)[j]? =some (jJ x):=by simp at hx;simp[hx]
    rw[M,List.getElem?_map,hj] at h1;simpa using h1.symm
   have Vg:P.fieldsOf t=fs:=by simp[Program.fieldsOf,hu]
   have U:=run_equalIn_struct (P:=P) w 9999 t xs.toArray ys.toArray (by rw[Vg];exact hu) bt;show(Op.equalIn (9999+1) t _ _).run P w=_;rw[U,Vg,hr,fin r];rw[pv];constructor
   .intro h;apply List.ext_getElem?;intro j;rcases Nat.lt_or_ge j fs.toList.length with aj|bL
    .have h1:=h fs.toList[j] (df aj);have ho:=kA j fs.toList[j] oS;rw[Nat.zero_add] at ho;rw[ho] at h1;simpa using h1
    .rw[List.getElem?_eq_none oG,List.getElem?_eq_none (by rw[<- hk.1];omega)]
   .rintro rfl f _;rfl
  .cases ht
 .cases ht
variable{F:Nat->Prop}{m:Mem}{nx:Nat}{β:az}{w:World}
theorem I4:∀ {xs ys:List D} {a b:List Value},po xs ys=some (a,b)->xs=a.map D.s/\ys=b.map D.s/\AP a b
 |[],[],a,b,h=>by
  simp[po] at h;obtain⟨rfl,rfl⟩:=h;exact⟨rfl,rfl,rfl,oS⟩
 | .s x::xs,.s y::ys,a,b,h=>by
  simp only[po] at h;split at h
  .rename_i hk;simp only[dm] at h;obtain⟨⟨a',J⟩,h1,h2⟩:=h;simp only[cq] at h2;obtain⟨rfl,rfl⟩:=h2;obtain⟨C,e2,e3,e4⟩:=I4 h1;refine⟨by simp[C],by simp[e2],by simp[e3],fun k u v hu hv=>?_⟩;cases k with
   |zero=>simp at hu hv;subst hu;subst hv;exact hk
   |succ k=>exact e4 k u v (by simpa using hu) (by simpa using hv)
  .cases h
 |[],_::_,_,_,h=>by simp[po] at h
 |_::_,[],_,_,h=>by simp[po] at h
 | .u::_,_::_,_,_,h | .ub::_,_::_,_,_,h | .cG _ _::_,_::_,_,_,h | .agg _::_,_::_,_,_,h | .bp _::_,_::_,_,_,h | .z::_,_::_,_,_,h | .sl _ _::_,_::_,_,_,h | .pt _::_,_::_,_,_,h
 | .rs _ _ _::_,_::_,_,_,h | .rp _ _::_,_::_,_,_,h | .mp _::_,_::_,_,_,h | .fn _ _ _::_,_::_,_,_,h=>by simp[po] at h
 | .s _::_,.u::_,_,_,h | .s _::_,.ub::_,_,_,h | .s _::_,.cG _ _::_,_,_,h | .s _::_,.agg _::_,_,_,h | .s _::_,.bp _::_,_,_,h | .s _::_,.z::_,_,_,h | .s _::_,.sl _ _::_,_,_,h | .s _::_,.pt _::_,_,_,h
 | .s _::_,.rs _ _ _::_,_,_,h | .s _::_,.rp _ _::_,_,_,h | .s _::_,.mp _::_,_,_,h | .s _::_,.fn _ _ _::_,_,_,h=>by simp[po] at h
theorem FC{a:List Value}{v:Value}(h:R F β w (.agg (a.map D.s)) v):v=.agg a.toArray:=by
 obtain⟨vs,rfl,hl,hr⟩:=h.qM;congr 2;apply List.ext_getElem?;intro k;rcases Nat.lt_or_ge k a.length with aj|C
 .have hk:k<vs.length:=by rw[hl];simpa using aj
  have:=(hr k (.s a[k]) vs[k] (by simp[aj]) (by simp[hk])).cJ.1;simp[aj,hk,this]
 .rw[List.getElem?_eq_none (by rw[hl];simpa using C),List.getElem?_eq_none C]
theorem X3(hm:aC P F m β w){op:BinOp}{t:TypeId}(ox oy:Operand){xs ys:List D}{x y:Value}{q:Prop×D}(hx:R F β w (.agg xs) x)(hy:R F β w (.agg ys) y)(h:xU P op t xs ys=some q)(hp:q.1):
 aN P F m nx β w { pre:=q.1,val:=q.2 } ((do eqGuard op t ox oy x y;binOp op t x y)>>=fun r=>Pure.pure (Next.value r)):=by
 unfold xU at h;split at h
 .rename_i J z hf hz;cases h;obtain⟨a,b⟩:=z;obtain⟨C,e2,hk⟩:=I4 hz;subst C e2;rw[FC hx,FC hy];have:=Ou (P:=P) w hf hk hp.1;refine aN.val hm (v:=.bool (iX a b)) ?_ (.s _ rfl);have e3:(Op.equalIn 10000 t (.agg a.toArray) (.agg b.toArray)).run P w=.ok (iX a b) w:=this;simp only[Sem.run_bind,run_eqGuard_agg (P:=P) w .eql t ox oy _ _ hp.2,Result.andThen_ok,run_eql_struct,e3,Sem.run_pure]
 .rename_i J z hf hz;cases h;obtain⟨a,b⟩:=z;obtain⟨C,e2,hk⟩:=I4 hz;subst C e2;rw[FC hx,FC hy];have:=Ou (P:=P) w hf hk hp.1;refine aN.val hm (v:=.bool !(iX a b)) ?_ (.s _ rfl);have e3:(Op.equalIn 10000 t (.agg a.toArray) (.agg b.toArray)).run P w=.ok (iX a b) w:=this;simp only[Sem.run_bind,run_eqGuard_agg (P:=P) w .neq t ox oy _ _ hp.2,Result.andThen_ok,run_neq_struct,e3,Sem.run_pure]
 .cases h
end
section
variable{P:Program}{F:Nat->Prop}{m:Mem}{nx:Nat}{β:az}{w:World}
theorem Rg{ps:Array (Nat×Operand)}{ρ:Operand->D}{a:Act}(h:∀ x∈(ps.toList.map (·.2)),R F β w (ρ x) (a.eval x)):
 (ps.toList.map fun q=>(q.1,ρ q.2)).length=(ps.map fun(i,x)=>(i,a.eval x)).size/\
 ∀ (k:Nat) (p:Nat×D) (q:Nat×Value),(ps.toList.map fun q=>(q.1,ρ q.2))[k]? =some p->(ps.map fun(i,x)=>(i,a.eval x))[k]? =some q->p.1=q.1/\R F β w p.2 q.2:=by
 refine⟨oS,fun k p q hk hq=>?_⟩;simp only[List.getElem?_map,Array.getElem?_map] at hk hq;cases C:ps[k]? with
 |none=>simp[C] at hq
 |some y=>
  simp[C] at hk hq;subst hk;subst hq;exact⟨rfl,h _ (List.mem_map.2 ⟨y,by simpa using Array.mem_of_getElem? C,rfl⟩)⟩
theorem Au{xs:Array Operand}{ρ:Operand->D}{a:Act}(h:∀ x∈xs,R F β w (ρ x) (a.eval x)):
 (xs.toList.map a.eval).length=(xs.toList.map ρ).length/\∀ (k:Nat) (d:D) (v:Value),(xs.toList.map ρ)[k]? =some d->(xs.toList.map a.eval)[k]? =some v->R F β w d v:=by
 refine⟨oS,fun k d v hk hv=>?_⟩;simp only[List.getElem?_map] at hk hv;cases hx:xs.toList[k]? with
 |none=>simp[hx] at hk
 |some x=>
  simp[hx] at hk hv;subst hk;subst hv;exact h x (by simpa using cX hx)
theorem Mb{x:Option Operand}{ρ:Operand->D}{a:Act}(h:∀ y,x=some y->R F β w (ρ y) (a.eval y)):Ro F β w (x.map ρ) (x.map a.eval):=by
 cases x with
 |none=>exact .inl ⟨rfl,rfl⟩
 |some y=>exact .inr ⟨_,_,rfl,rfl,h y rfl⟩
theorem aN.of_eq{e:du}{s:Sem Next}(h:e.aT=[]/\e.new=0/\aN P F m nx β w e s):aN P F m nx β w e s:=h.2.2
theorem Wz(hm:aC P F m β w){b:Builtin}{ts:Array TypeId}{ty:TypeId}{cs:Array Bool}{ds:List D}{vs:List Value}{e:du}(hn:e.new=1->β nx=none)(hl:vs.length=ds.length)
 (hR:∀ (k:Nat) (d:D) (v:Value),ds[k]? =some d->vs[k]? =some v->R F β w d v) (C:ts.size=ds.length) (h:eI P m nx b ts ds=some e) (hp:e.pre):aN P F m nx β w e (builtin b ts ty cs vs.toArray):=by
 cases b
 case len=>
  match ds,vs,hl,h,hR with
  |[d],[v],_,h,hR=>
   simp only[eI] at h;exact aN.of_eq (abb hm (by simp at C;omega) (hR 0 d v rfl rfl) h hp)
  |[],_,_,h,_=>simp[eI] at h
  |_::_::_,_,_,h,_=>simp[eI] at h
 case append=>
  match ds,vs,hl,h,hR with
  |[s,x],[v,u],_,h,hR=>
   simp only[eI] at h;split at h
   .rename_i J
    match ts,C,J,h with
    |⟨[t,t']⟩,_,J,h=>
     simp[Array.getD_eq_getD_getElem?] at J h;subst J
     have O:e.new=1:=by
      unfold p0 at h;simp only at h;split at h
      .cases h
      .split at h
       .simp only[aK] at h;rw[<- h]
       .split at h
        .simp only[aK] at h;rw[<- h]
        .cases h
       .cases h
     exact Xs hm (hn O) (hR 0 s v rfl rfl) (hR 1 x u rfl rfl) h hp
    |⟨[]⟩,C,_,_=>simp at C
    |⟨[_]⟩,C,_,_=>simp at C
    |⟨_::_::_::_⟩,C,_,_=>simp at C
   .cases h
  |[],_,_,h,_=>simp[eI] at h
  |[_],_,_,h,_=>simp[eI] at h
  |_::_::_::_,_,_,h,_=>simp[eI] at h
 case min=>
  match ds,vs,hl,h,hR with
  |[.s (.int k a),.s (.int k' b)],[v,u],_,h,hR=>
   simp only[eI,aK] at h;subst h;simp only at hp;subst hp;exact Rc hm (hR 0 _ v rfl rfl) (hR 1 _ u rfl rfl)
  |ds,vs,hl,h,hR=>
   unfold eI at h;split at h<;>simp_all;subst h;subst hp
   match vs,hl with
   |[v,u],_=>exact Rc hm (hR 0 _ v rfl rfl) (hR 1 _ u rfl rfl)
 case clear=>
  match ds,vs,hl,h,hR with
  |[d],[v],_,h,hR=>
   cases d with
   |rs i off n=>
    simp only[eI] at h;cases hi:m i with
    |none=>simp[hi] at h
    |some r=>
    cases r with
    |map es=>simp[hi] at h
    |raw es=>simp[hi] at h
    |bs u x T=>simp[hi] at h
    |lp k=>simp[hi] at h
    |iA f r=>simp[hi] at h
    |cells c U=>
     simp only[hi,aK] at h;subst h;obtain⟨h1,h2,M⟩:=hp;exact Yh hm (by simp at C;omega) (hR 0 _ v rfl rfl) hi h1 h2 M
   |_=>simp[eI] at h
  |[],_,_,h,_=>simp[eI] at h
  |_::_::_,_,_,h,_=>simp[eI] at h
 case delete=>
  match ds,vs,hl,h,hR with
  |[x,k],[v,u],_,h,hR=>exact Xj hm (by simp at C;omega) (hR 0 x v rfl rfl) (hR 1 k u rfl rfl) h hp
  |[],_,_,h,_=>simp[eI] at h
  |[_],_,_,h,_=>simp[eI] at h
  |_::_::_::_,_,_,h,_=>simp[eI] at h
 all_goals (simp[eI] at h)
theorem Ph(hm:aC P F m β w){o:Oper}{env:Env}{a:Act}{e:du}(hn:e.new=1->β nx=none)(hE:eZ F β w env a)(ha:asks env o.op)(h:aQ P o.op (bC env o.op) m nx=some e)(hp:e.pre):
 aN P F m nx β w e (execOp a.eval o):=by
 obtain⟨dst,op,type,pos,after,guard⟩:=o;simp only at ha h
 have hR:(∀ c x y,op≠ .pick c x y)->∀ x∈op.operands.toList,R F β w (bC env op x) (a.eval x):=fun wT x hx=>by
  have h1:bC env op x=(opd env x).core:=by cases op<;>first|rfl|exact absurd rfl (wT _ _ _)
  have h2:(opd env x).ask:=by cases op<;>first|exact ha x hx|exact absurd rfl (wT _ _ _)
  rw[h1];exact(hE.opd x).vI _ h2
 unfold execOp;cases op with
 |move x=>
  simp only[aQ,aK] at h;subst h;exact aN.val hm oS (hR oS x cm)
 |assign x=>
  simp only[aQ,aK] at h;subst h;exact aN.val hm oS (hR oS x cm)
 |pick c x y=>
  simp only[aQ,bC] at h;cases hc:(opd env c).core.fA with
  |none=>simp[hc] at h
  |some t=>
  simp only[hc,aK] at h;subst h
  have HO:a.eval c=.bool t:=by
   have h1:=(hE.opd c).vI _ ha;unfold D.fA at hc;split at hc
   .rename_i b he;cases hc;rw[he] at h1;exact h1.cJ.1
   .cases hc
  exact ZH hm HO (hE.opd x) (hE.opd y) hp.1 hp.2
 |alloc t=>
  simp only[aQ,aK] at h;subst h;exact Yd hm (hn rfl) hp
 |box t x=>
  simp only[aQ,aK] at h;subst h;exact aa9 hm (hn rfl) (hR oS x cm) hp
 |build t ps=>
  simp only[aQ] at h;obtain⟨X,q2⟩:=Rg (F:=F) (β:=β) (w:=w) (ps:=ps) (ρ:=bC env (.build t ps)) (a:=a) (fun x hx=>hR oS x (by simpa[Op.operands] using hx));split at h
  .rename_i fs hu;cases hf:jq (fun i=>Option.map (fun f=>(f.offset,P.cellsOf f.type)) fs[i]?) (aZ P t) (ps.toList.map fun q=>(q.1,bC env (.build t ps) q.2)) with
   |none=>simp[hf] at h
   |some cs=>
    simp only[hf,Option.map_some,aK] at h;subst h;exact Wd hm hp.1 hu hp.2 X q2 hf
  .rename_i n e' hu;cases hf:jq (fun i=>some (i*P.cellsOf e',P.cellsOf e')) (aZ P t) (ps.toList.map fun q=>(q.1,bC env (.build t ps) q.2)) with
   |none=>simp[hf] at h
   |some cs=>
    simp only[hf,Option.map_some,aK] at h;subst h;exact Wl hm hp.1 hu hp.2 X q2 hf
  .cases h
 |buildSlice t n ps=>
  simp only[aQ] at h;obtain⟨X,q2⟩:=Rg (F:=F) (β:=β) (w:=w) (ps:=ps) (ρ:=bC env (.buildSlice t n ps)) (a:=a) (fun x hx=>hR oS x (by simpa[Op.operands] using hx));cases hf:jq (fun i=>some (i*P.cellsOf (av P t),P.cellsOf (av P t))) (dq n (aZ P (av P t))) (ps.toList.map fun q=>(q.1,bC env (.buildSlice t n ps) q.2)) with
  |none=>simp[hf] at h
  |some cs=>
   simp only[hf,Option.map_some,aK] at h;subst h;obtain⟨_,J,M,p4⟩:=hp;exact Wp hm (hn rfl) M J p4 X q2 hf
 |load t x=>
  have hx:=hR oS x cm;simp only[aQ] at h;split at h
  .rename_i cs he;rw[he] at hx;simp only[aK] at h;subst h;exact WX hm hx hp.1 hp.2
  .rename_i i off he;rw[he] at hx;split at h
   .rename_i cs ty hi;simp only[aK] at h;subst h;exact WY hm hx hi hp.1 hp.2
   .cases h
  .cases h
 |store t x y=>
  have hx:=hR oS x cm;have hy:=hR oS y cm;simp only[aQ] at h;split at h
  .rename_i i off he;rw[he] at hx;split at h
   .rename_i cs ty hi;simp only[aK] at h;subst h;obtain⟨U,J,M,p4⟩:=hp;exact Yc hm hx hy hi U J M p4
   .cases h
  .cases h
 |nilCheck x=>
  have hx:=hR oS x cm;simp only[aQ] at h;split at h
  .rename_i cs he;rw[he] at hx;simp only[aK] at h;subst h;obtain⟨ad,h1,h2⟩:=Wm (pre:=True) (nx:=nx) hm hx;simp only[h1] at h2 ⊢;exact h2
  .rename_i i off he;rw[he] at hx;split at h
   .rename_i r hi;simp only[aK] at h;subst h;obtain⟨ad,h1,h2⟩:=Wn (pre:=True) (nx:=nx) (rd:=[i]) hm hx hi;simp only[h1] at h2 ⊢;exact h2
   .cases h
  .cases h
 |binOp op t x y yt=>
  have hx:=hR oS x cm;have hy:=hR oS y cm;simp only[aQ] at h;split at h
  .rename_i e' O;simp only[aK] at h;subst h;unfold kQ at O;split at O
   .rename_i es n he;simp only[aK] at O;subst O;rw[he] at hx;exact Xr hm t x (.const (.slice none 0 0)) hx hp
   .rename_i i off he;split at O
    .rename_i r hi;simp only[aK] at O;subst O;rw[he] at hx;exact OU hm .eql t x _ hx hi hy hp (.inl ⟨rfl,rfl⟩)
    .cases O
   .rename_i i off he;split at O
    .rename_i r hi;simp only[aK] at O;subst O;rw[he] at hx;exact OU hm .neq t x _ hx hi hy hp (.inr ⟨rfl,rfl⟩)
    .cases O
   .cases O
  .unfold pq at h;split at h
   .rename_i b1 b2 C e2;rw[C] at hx;rw[e2] at hy;split at h
    .simp only[Option.map_some,aK] at h;subst h;exact Oz hm .eql t x y hx hy hp (.inl ⟨rfl,rfl⟩)
    .simp only[Option.map_some,aK] at h;subst h;exact Oz hm .neq t x y hx hy hp (.inr ⟨rfl,rfl⟩)
    .simp at h
   .rename_i v1 v2 _ C e2;rw[C] at hx;rw[e2] at hy;cases hb:nC op v1 v2 with
    |none=>simp[hb] at h
    |some q=>
     simp only[hb,Option.map_some,aK] at h;subst h;exact ZD hm op t x y hx hy hb hp
   .rename_i xs ys C e2;rw[C] at hx;rw[e2] at hy;cases hb:xU P op t xs ys with
    |none=>simp[hb] at h
    |some q=>
     simp only[hb,Option.map_some,aK] at h;subst h;exact X3 hm x y hx hy hb hp
   .simp at h
 |unOp op t x=>
  have hx:=hR oS x cm;simp only[aQ] at h;split at h
  .rename_i v he;rw[he] at hx;cases hb:Bl op v with
   |none=>simp[hb] at h
   |some q=>
    simp only[hb,Option.map_some,aK] at h;subst h;exact aba hm op hx hb
  .cases h
 |convert src dst x=>
  have hx:=hR oS x cm;simp only[aQ] at h;split at h
  .rename_i k k' n hd he;rw[he] at hx;simp only[aK] at h;subst h;exact WE hm src dst hx hd (z7 hp)
  .rename_i e' b hd he;rw[he] at hx;split at h
   .rename_i ie;simp only[aK] at h;subst h;exact Yg hm hx hp.1 hd ie hp.2
   .cases h
  .cases h
 |makeFunc f fs cs=>
  simp only[aQ,aK] at h;subst h;obtain⟨X,q2⟩:=Au (F:=F) (β:=β) (w:=w) (xs:=fs) (ρ:=bC env (.makeFunc f fs cs)) (a:=a) (fun x hx=>hR oS x (by simp[Op.operands];exact .inl hx));obtain⟨q3,q4⟩:=Au (F:=F) (β:=β) (w:=w) (xs:=cs) (ρ:=bC env (.makeFunc f fs cs)) (a:=a) (fun x hx=>hR oS x (by simp[Op.operands];exact .inr hx));have:=WG (pre:=True) (nx:=nx) hm f X q3 q2 q4;have C:(fs.toList.map a.eval).toArray=fs.map a.eval:=by apply Array.ext';simp
  have e2:(cs.toList.map a.eval).toArray=cs.map a.eval:=by apply Array.ext';simp
  rw[C,e2] at this;exact this
 |makeMap t r=>
  simp only[aQ] at h;split at h
  .simp only[aK] at h;subst h;exact W2 hm (hn rfl)
  .cases h
 |makeSlice t l c=>
  have hx:=hR oS l cm;have hy:=hR oS c cm;simp only[aQ] at h;split at h
  .rename_i n k C e2;rw[C] at hx;rw[e2] at hy;simp only[aK] at h;subst h;obtain⟨U,J,M,p4,p5⟩:=hp;subst J;show aN P F m nx β w _ (do Pure.pure (Next.value (<- Instr.makeSlice t (a.eval l) (a.eval c))));rw[hx.cJ.1,hy.cJ.1];exact Wv hm (hn rfl) U M p4 p5
  .cases h
 |slice t x lo hi mx=>
  have hx:=hR oS x cm;simp only[aQ] at h;exact aN.of_eq (Yf hm hx (Mb fun y hy=>hR oS y (by simp[Op.operands,hy])) (Mb fun y hy=>hR oS y (by simp[Op.operands,hy])) (Mb fun y hy=>hR oS y (by simp[Op.operands,hy])) h hp)
 |fieldAddr t x k=>
  have hx:=hR oS x cm;simp only[aQ] at h;split at h
  .rename_i off ft cs hf he;rw[he] at hx;simp only[aK] at h;subst h;exact We hm hx hf hp
  .rename_i off ft i o hf he;rw[he] at hx;split at h
   .rename_i r hi;simp only[aK] at h;subst h;exact Wf hm hx hi hf hp
   .cases h
  .cases h
 |field t x k=>
  have hx:=hR oS x cm;simp only[aQ] at h;split at h
  .rename_i off ft cs hf he;rw[he] at hx;simp only[aK] at h;subst h;exact Ye hm hx hf hp.1 hp.2
  .cases h
 |indexAddr t x i=>
  have hx:=hR oS x cm;have hy:=hR oS i cm;simp only[aQ] at h;split at h
  .rename_i es n kk k C e2;rw[C] at hx;rw[e2] at hy;simp only[aK] at h;subst h;obtain⟨U,J,M,_⟩:=hp;exact Wg hm hx hy U J M
  .rename_i j off n kk k C e2;rw[C] at hx;rw[e2] at hy;split at h
   .rename_i r hj;simp only[aK] at h;subst h;obtain⟨U,J,M⟩:=hp;exact Wh hm hx hj hy U J M
   .cases h
  .rename_i j off kk k C e2;rw[C] at hx;rw[e2] at hy;split at h
   .rename_i r hj;simp only[aK] at h;subst h;obtain⟨U,J,M⟩:=hp;exact Wc hm hx hj hy U J M
   .cases h
  .cases h
 |index t x i=>
  have hx:=hR oS x cm;have hy:=hR oS i cm;simp only[aQ] at h;split at h
  .rename_i b kk k C e2;rw[C] at hx;rw[e2] at hy;simp only[aK] at h;subst h;obtain⟨U,J,M⟩:=hp;exact Ww hm hx hy U J M
  .rename_i cs kk k C e2;rw[C] at hx;rw[e2] at hy;simp only[aK] at h;subst h;obtain⟨U,J,M,p4⟩:=hp;exact Wx hm hx hy U J M p4
  .cases h
 |lookup t x k ok=>exact Xh hm (hR oS x cm) (hR oS k cm) (by simpa only[aQ] using h) hp
 |mapUpdate t x k v=>exact OO hm (hR oS x cm) (hR oS k cm) (hR oS v cm) (by simpa only[aQ] using h) hp
 |insert t x k v=>exact OO hm (hR oS x cm) (hR oS k cm) (hR oS v cm) (by simpa only[aQ] using h) hp
 |extract x k=>
  have hx:=hR oS x cm;simp only[aQ] at h;split at h
  .rename_i cs C;rw[C] at hx;simp only[aK] at h;subst h;exact W0 hm hx hp
  .cases h
 |call c=>
  simp only[aQ] at h;split at h
  .rename_i b hb;split at h
   .rename_i lJ;obtain⟨X,q2⟩:=Au (F:=F) (β:=β) (w:=w) (xs:=c.args) (ρ:=bC env (.call c)) (a:=a) (fun x hx=>hR oS x (by simp[Op.operands,Call.operands,hb];exact hx));have:=Wz hm (b:=b) (ts:=c.argTypes) (ty:=type) (cs:=c.args.map fun | .const _=>true|_=>false) (e:=e) hn X q2 (by simpa using lJ) h hp;obtain⟨n,v,w',β',h1,h2⟩:=this;refine⟨n,v,w',β',?_,h2⟩;simp only[resolve,hb,Sem.run_bind,Sem.run_pure,Result.andThen_ok,invoke];have C:(c.args.toList.map a.eval).toArray=c.args.map a.eval:=by apply Array.ext';simp
    rw[<- C];exact h1
   .cases h
  .cases h
 |_=>simp[aQ] at h
end
section
variable{P:Program}{F F':Nat->Prop}{m:Mem}{nx:Nat}{β β':az}{w w':World}
theorem R.lift{d:D}{v:Value}(h:R F gU w d v)(hf:∀ b,¬ F b->¬ F' b/\β.free b):R F' β w d v:=
 h.gen (bO _) (fun b _ h1 _=>⟨mC.refl w b,(hf b h1).2,(hf b h1).1⟩) fun i p _ hp=>by cases hp
theorem B0{b:Nat}(h:¬ owned F β b):¬ F b/\β.free b:=by
 unfold owned at h;have h1:¬ F b:=fun e=>h (.inl e);refine⟨h1,?_⟩;by_cases hb:β.free b
 .exact hb
 .exact absurd (.inr hb) h
theorem Zk(hm:aC P F m β w){b:Nat}(h:owned F β b):b<w.heap.size:=by
 rcases h with h|h
 .exact hm.fb.lt b h
 .unfold az.free at h;simp only[Classical.not_forall] at h;obtain⟨i,p,hp,hb⟩:=h;exact hm.lt i p b hp (Decidable.not_not.1 hb)
theorem P6(hm:aC P F m β w):FB (owned F β) w:=hm.fb.next (fun b hb=>Zk hm hb) (fun _ h=>.inl h) fun _ _ _=>rfl
theorem RZ{d:D}{v:Value}(hs:d.jK=true)(h:R F β w d v):R F' β' w' d v:=by
 have bp:∀ cs:List D,(∀ d∈cs,∃ x,d=.s x)->R F β w (.bp cs) v->R F' β' w' (.bp cs) v:=fun cs hc h=>by
  obtain⟨vs,rfl,hl,hr⟩:=h.Ag;refine .bp cs vs hl fun k d u hk hu=>?_;obtain⟨x,rfl⟩:=hc d (cX hk);have:=(hr k _ u hk hu).cJ;rw[this.1];exact .s x this.2
 unfold D.jK at hs;split at hs
 .rw[h.cJ.1];exact .s _ h.cJ.2
 .obtain⟨b,rfl⟩:=h.Cy;exact .ub b
 .exact bp _ oS h
 .exact bp _ oS h
 .exact bp _ oS h
 .cases hs
theorem O5(h:Kept w w'):Step β w β w':=xG h.1 h.2.1 h.2.2
theorem aC.kept(hm:aC P F m β w)(h:Kept w w'):aC P F m β w':=hm.ext h.1 h.2.1 h.2.2
theorem O6(hm:aC P F m β w){f:FuncId}{args:List D}{r:D}{vs:Array Value}(hc:ax P f args r)(hR:Rs F β w args vs):
 Calls P f vs w fun e w'=>∃ v,e=.returned v/\R F β w' r v/\aC P F m β w'/\Step β w β w':=
 (hc.2.2 (owned F β) w vs (P6 hm) ⟨hR.1,fun k d v hd hv=>hc.2.1 d (cX hd) F β w v (hR.2 k d v hd hv)⟩).mono
  fun e w' ⟨v,he,hr,hk⟩=>⟨v,he,hr.lift fun b hb=>B0 hb,hm.kept hk,O5 hk⟩
theorem K2{bx:List Nat}(C:∀ i∈bx,∀ r,m i=some r->∃ p,β i=some p/\cO P F β w r p/\∀ b,p.bJ=some b->¬ F b):∀ {aS bs:List D},nH P bx m aS bs->aS.length=bs.length/\∀ (k:Nat) (a b:D),aS[k]? =some a->bs[k]? =some b->∀ v,R F β w a v->R F gU w b v
 |[],[],_=>⟨rfl,oS⟩
 |a::aS,b::bs,h=>by
  obtain⟨h1,h2⟩:=K2 C h.2;refine⟨by simp[h1],fun k x y hx hy v hv=>?_⟩;cases k with
  |zero=>
   simp at hx hy;subst hx;subst hy;exact h.1 F β w v C hv
  |succ k=>exact h2 k x y (by simpa using hx) (by simpa using hy) v hv
 |[],_::_,h=>h.elim
 |_::_,[],h=>h.elim
def K3(r:D):Prop:=∀ (F F':Nat->Prop) (β β':az) (w w':World) (v:Value),R F β w r v->R F' β' w' r v
theorem Xc{r:D}(h:r.jK=true):K3 r:=fun _ _ _ _ _ _ _=>RZ h
theorem O7(hm:aC P F m β w){f:FuncId}{args J:List D}{bx:List Nat}{C:Mem}{r:D}{vs:Array Value}(O:nH P bx C args J)(M:∀ i∈bx,C i≠none->m i=C i)(hc:ax P f J r)(hs:K3 r)(hR:Rs F β w args vs):
 Calls P f vs w fun e w'=>∃ v,e=.returned v/\R F β w' r v/\aC P F m β w'/\Step β w β w':=by
 obtain⟨h1,h2⟩:=K2 (P:=P) (F:=F) (β:=β) (w:=w) (fun i hi r hr=>by
  obtain⟨p,hp,aD⟩:=hm.row i r (by rw[M i hi (by simp[hr])];exact hr)
  exact⟨p,hp,aD,fun b hb=>hm.nf i p b hp hb⟩) O
 refine(hc.2.2 F w vs hm.fb ⟨by rw[hR.1,h1],fun k d v hd hv=>?_⟩).mono fun e w' ⟨v,he,hr,hk⟩=>⟨v,he,hs _ _ _ _ _ _ _ hr,hm.kept hk,O5 hk⟩
 have aj:k<args.length:=by rw[h1];exact(bZ.1 hd).1
 exact h2 k args[k] d (by simp[aj]) hd v (hR.2 k args[k] v (by simp[aj]) hv)
theorem Zl(hm:aC P F m β w)(hn:β nx=none){f:FuncId}{args es:List D}{n:Nat}{t:TypeId}{vs:Array Value}(hc:qY P f args es n t)(hR:Rs F β w args vs):
 Calls P f vs w fun e w'=>∃ v β',e=.returned v/\R F β' w' (.rs nx 0 n) v/\aC P F (up m nx (some (.cells es t))) β' w'/\Step β w β' w'/\∀ i,i≠nx->β' i=β i:=by
 refine(hc.2.2 (owned F β) w vs (P6 hm) ⟨hR.1,fun k d v hd hv=>hc.2.1 d (cX hd) F β w v (hR.2 k d v hd hv)⟩).mono ?_;rintro e w' ⟨v,p,he,O,C,aD,hv,hk⟩;have iy:=hm.kept hk
 have hs:Step β w (up β nx (some p)) w':=by
  refine⟨hk.1,fun b hb hf=>⟨hk.2.1 b hb,fun i q hq=>?_⟩,fun i q hq=>.inl ?_,hk.2.2,fun _ r _ _=>JR (hk.2.1 r)⟩
  .by_cases hi:i=nx
   .subst hi;rw[au] at hq;cases hq;intro e;have:=(C b e).1;omega
   .rw[bE _ _ hi] at hq;exact hf i q hq
  .rw[bE _ _ (fun e=>by rw[e,hn] at hq;cases hq)];exact hq
 have J:∀ i q b,up β nx (some p) i=some q->q.bJ=some b->(i=nx/\q=p)\/(i≠nx/\β i=some q):=fun i q b hq _=>by
  by_cases hi:i=nx
  .subst hi;rw[au] at hq;cases hq;exact .inl ⟨rfl,rfl⟩
  .rw[bE _ _ hi] at hq;exact .inr ⟨hi,hq⟩
 have U:∀ b,¬ (owned F β b\/p.bJ=some b)->¬ F b/\az.free (up β nx (some p)) b:=fun b hb=>by
  have h1:=B0 (F:=F) (β:=β) (b:=b) (fun e=>hb (.inl e));refine⟨h1.1,fun i q hq e=>?_⟩;rcases J i q b hq e with⟨_,rfl⟩|⟨_,gZ⟩
  .exact hb (.inr e)
  .exact h1.2 i q gZ e
 have X:cO P F (up β nx (some p)) w' (.cells es t) p:=by
  cases aD with
  |nil _=>exact .nil _
  |cells _ _ b o room sz c h1 h2 h3 h4 h5=>
   refine .cells es t b o room sz c h1 h2 h3 h4 fun k d hd=>?_;obtain⟨u,rE,rF,rG⟩:=h5 k d hd;exact⟨u,rE,rF.lift U,rG⟩
 refine⟨v,up β nx (some p),he,?_,?_,hs,fun i hi=>bE _ _ hi⟩
 .cases hv with
  |lG _ _ _ _ h _=>rw[au] at h;cases h;exact absurd rfl O
  |jR _ a h=>rw[au] at h;cases h;exact .jR nx a (au _ _ _)
  |kX _ _ a b o len room sz h=>rw[au] at h;cases h;exact .kX nx 0 a b o len room sz (au _ _ _)
  |rs _ _ _ cap b o len room sz h h1 h2 h3 h4=>rw[au] at h;cases h;exact .rs nx 0 n cap b o len room sz (au _ _ _) h1 h2 h3 h4
 .refine⟨fun i r hi=>?_,fun i j q q' b hq gZ e M=>?_,fun i q b hq e=>?_,fun i q b hq e=>?_,iy.fb⟩
  .by_cases cy:i=nx
   .subst cy;rw[au] at hi;cases hi;exact⟨p,au _ _ _,X⟩
   .rw[bE _ _ cy] at hi;obtain⟨q,hq,iF⟩:=hm.row i r hi;exact⟨q,by rw[bE _ _ cy];exact hq,iF.step hs fun b hb=>hk.2.1 b (hm.lt i q b hq hb)⟩
  .rcases J i q b hq e with⟨rfl,rfl⟩|⟨hi,h1⟩<;>rcases J j q' b gZ M with⟨rfl,rfl⟩|⟨hj,h2⟩
   .rfl
   .have:=(C b e).1;have:=hm.lt j q' b h2 M;omega
   .have:=(C b M).1;have:=hm.lt i q b h1 e;omega
   .exact hm.inj i j q q' b h1 h2 e M
  .rcases J i q b hq e with⟨_,rfl⟩|⟨_,h1⟩
   .exact(C b e).2
   .exact iy.lt i q b h1 e
  .rcases J i q b hq e with⟨_,rfl⟩|⟨_,h1⟩
   .intro hF;have:=hm.fb.lt b hF;have:=(C b e).1;omega
   .exact hm.nf i q b h1 e
theorem OI{o:Oper}{env:Env}{a:Act}{f:FuncId}{args:List D}(M:eZ F β w env a)(ha:asks env o.op)(h:dx (bC env o.op) o.op=some (f,args))(he:lf P f=true):
 ∃ vs,(execOp a.eval o).run P w=.ok (.enter f vs) w/\Rs F β w args vs:=by
 obtain⟨dst,op,type,pos,after,guard⟩:=o;simp only at ha h;cases op with
 |call c=>
  simp only[dx] at h;have hR:∀ x∈(Op.call c).operands.toList,R F β w (bC env (.call c) x) (a.eval x):=fun x hx=>(M.opd x).vI _ (ha x hx);split at h
  .rename_i g hg;split at h
   .rename_i k fs cs hk;simp only[aK,cq] at h;obtain⟨rfl,rfl⟩:=h;have h1:=hR g (by simp[Op.operands,Call.operands,hg]);rw[hk] at h1;obtain⟨q1,O⟩:=Au (F:=F) (β:=β) (w:=w) (xs:=c.args) (ρ:=bC env (.call c)) (a:=a) (fun x hx=>hR x (by simp[Op.operands,Call.operands];exact .inr hx));generalize hv:a.eval g=v at h1;cases h1 with
    |fn _ _ _ us vs hl kY hh J=>
    refine⟨us.toArray++c.args.map a.eval++vs.toArray,?_,?_,?_⟩
    .unfold execOp;simp only[resolve,hg,Sem.run_bind,hv,Deferred.ofValue,Sem.run_pure,Result.andThen_ok,invoke];unfold callFunc;unfold lf at he;simp only[Sem.run_bind,run_program,Result.andThen_ok];split at he
     .rename_i fn U;simp only[ay,Bool.not_eq_true'] at he
      have hb:fn.body.isNone=false:=by
       cases X:fn.body<;>simp_all
      rw[U];simp only[he.1,hb,Bool.false_eq_true,if_false,Sem.run_pure]
     .cases he
    .simp[hl,kY]
    .intro j d u hd hu;simp only[List.append_assoc] at hd;simp only[Array.append_assoc] at hu;rcases Nat.lt_or_ge j fs.length with hj|hj
     .rw[List.getElem?_append_left hj] at hd;rw[Array.getElem?_append_left (by simpa[hl] using hj)] at hu;exact hh j d u hd (by simpa using hu)
     .rw[List.getElem?_append_right hj] at hd;rw[Array.getElem?_append_right (by simpa[hl] using hj)] at hu;simp only[List.size_toArray,hl] at hu;generalize j - fs.length=j' at hd hu;rcases Nat.lt_or_ge j' (c.args.toList.map (bC env (.call c))).length with C|C
      .rw[List.getElem?_append_left C] at hd;rw[Array.getElem?_append_left (by simpa using C)] at hu;exact O j' d u hd (by simpa using hu)
      .rw[List.getElem?_append_right C] at hd;rw[Array.getElem?_append_right (by simpa using C)] at hu;exact J _ d u hd (by simpa using hu)
   .cases h
  .cases h
 |_=>simp[dx] at h
end
section
variable{P:Program}
theorem aa4{o:Op}{ρ C:Operand->D}(h:∀ x∈o.operands,C x=ρ x)(m:Mem)(nx:Nat):aQ P o C m nx=aQ P o ρ m nx:=by
 have M:∀ ps:Array (Nat×Operand),(∀ x∈ps.map (·.2),C x=ρ x)->
  (ps.toList.map fun q=>(q.1,C q.2))=(ps.toList.map fun q=>(q.1,ρ q.2)):=fun ps hp=>
  List.map_congr_left fun p hm=>by
   obtain⟨i,x⟩:=p;simp only[hp x (Array.mem_map.2 ⟨(i,x),by simpa using hm,rfl⟩)]
 have args:∀ xs:Array Operand,(∀ x∈xs,C x=ρ x)->xs.toList.map C=xs.toList.map ρ:=fun xs hx=>
  List.map_congr_left fun x hm=>hx x (by simpa using hm)
 cases o with
 |call c=>
  simp only[aQ];cases hc:c.callee with
  |builtin b=>simp only[args c.args fun x hx=>h x (by simp[Op.operands,Call.operands,hc,hx])]
  |_=>rfl
 |build t ps=>simp only[aQ,M ps fun x hx=>h x (by simpa[Op.operands] using hx)]
 |buildSlice t n ps=>simp only[aQ,M ps fun x hx=>h x (by simpa[Op.operands] using hx)]
 |makeFunc f fs cs=>simp only[aQ,args fs fun x hx=>h x (by simp[Op.operands,hx]),args cs fun x hx=>h x (by simp[Op.operands,hx])]
 |slice t x lo hi J=>
  have O:lo.map C=lo.map ρ:=by cases lo<;>simp_all[Op.operands]
  have e2:hi.map C=hi.map ρ:=by cases hi<;>simp_all[Op.operands]
  have e3:J.map C=J.map ρ:=by cases J<;>simp_all[Op.operands]
  simp only[aQ,O,e2,e3,h x cm]
 |makeMap t r=>cases r<;>simp_all[aQ,Op.operands]
 |_=>first|rfl|(simp only[Op.operands] at h;simp only[aQ];simp_all)
theorem zT{o:Op}{ρ C:Operand->D}(h:∀ x∈o.operands,C x=ρ x):dx C o=dx ρ o:=by
 cases o with
 |call c=>
  simp only[dx];cases hc:c.callee with
  |value f=>
   have J:c.args.toList.map C=c.args.toList.map ρ:=List.map_congr_left fun x hm=>h x (by simp[Op.operands,Call.operands,hc];exact .inr (by simpa using hm));have e2:C f=ρ f:=h f (by simp[Op.operands,Call.operands,hc]);simp only[J,e2]
  |_=>rfl
 |_=>rfl
theorem Q5{env env':Env}{x:Operand}(h:∀ t,x=.tmp t->env' t=env t):opd env' x=opd env x:=by
 cases x<;>simp_all[opd]
theorem vK{env env':Env}{o:Op}(h:∀ t,Operand.tmp t∈o.operands->env' t=env t):∀ x∈o.operands,bC env' o x=bC env o x:=fun x hx=>by
 have:=Q5 (env:=env) (env':=env') (x:=x) fun t ht=>h t (ht▸hx);unfold bC;cases o<;>simp[this]
theorem xH{env env':Env}{o:Op}(h:∀ t,Operand.tmp t∈o.operands->env' t=env t):asks env' o=asks env o:=by
 have hh:∀ x∈o.operands,opd env' x=opd env x:=fun x hx=>Q5 fun t ht=>h t (ht▸hx)
 have hl:(∀ x∈o.operands.toList,(opd env' x).ask)=(∀ x∈o.operands.toList,(opd env x).ask):=by
  apply propext;constructor
  .intro hq x hx;rw[<- hh x (by simpa using hx)];exact hq x hx
  .intro hq x hx;rw[hh x (by simpa using hx)];exact hq x hx
 unfold asks;split
 .rw[hh _ cm]
 .exact hl
theorem Ob{m m':Mem}{sz:Nat}{d:D}{p:Prop}{rd:List Nat}{n:Nat}{cs:List D}(h:iG m sz d=some (p,rd,n,cs))(hr:∀ i∈rd,m' i=m i):iG m' sz d=some (p,rd,n,cs):=by
 unfold iG at*
 split at h
 .simpa using h
 .simpa using h
 .rename_i i off n';split at h
  .rename_i cs' e hm;simp only[aK,cq] at h;obtain⟨rfl,rfl,rfl,rfl⟩:=h;rw[hr i oS,hm]
  .cases h
 .cases h
theorem WQ{m m':Mem}{t:TypeId}{x k:D}{ok:Bool}{e:du}(h:ng P m t x k ok=some e)(hr:∀ i∈e.rd,m' i=m i):ng P m' t x k ok=some e:=by
 unfold ng at*
 split at h
 .split at h
  .rename_i hm;cases h;rw[hr _ oS,hm]
  .cases h
 .exact h
 .exact h
 .cases h
theorem Ov{m m':Mem}{t:TypeId}{x k v:D}{e:du}(h:nh P m t x k v=some e)(hr:∀ i∈e.rd,m' i=m i):nh P m' t x k v=some e:=by
 unfold nh at*
 split at h
 .split at h
  .rename_i hm;cases h;rw[hr _ oS,hm]
  .cases h
 .cases h
theorem WR{m m':Mem}{t:TypeId}{x k:D}{e:du}(h:tR P m t x k=some e)(hr:∀ i∈e.rd,m' i=m i):tR P m' t x k=some e:=by
 unfold tR at*
 split at h
 .split at h
  .rename_i hm;cases h;rw[hr _ oS,hm]
  .cases h
 .cases h
theorem aa5{o:Op}{ρ:Operand->D}{m m':Mem}{nx:Nat}{e:du}(h:aQ P o ρ m nx=some e)(hr:∀ i∈e.rd,m' i=m i):aQ P o ρ m' nx=some e:=by
 cases o with
 |call c=>
  simp only[aQ] at h ⊢;split at h
  .rename_i b hb;split at h
   .rename_i O;rw[if_pos O];unfold eI at h ⊢;split at h
    .unfold lD at h ⊢;split at h<;>try exact h
     split at h
     .rename_i hm;cases h;rw[hr _ oS,hm]
     .cases h
    .split at h
     .unfold p0 at h ⊢;simp only at h ⊢;split at h
      .cases h
      .rename_i hc;split at h
       .cases h;rw[Ob hc hr];simp_all
       .split at h
        .rename_i hm;cases h;rw[Ob hc fun i hi=>hr i (by simp[hi])];rw[hr _ oS,hm];simp_all
        .cases h
       .cases h
     .cases h
    .exact h
    .split at h
     .rename_i hm;cases h;rw[hr _ oS,hm]
     .cases h
    .exact WR h hr
    .cases h
   .cases h
  .cases h
 |lookup t x k ok=>exact WQ h hr
 |mapUpdate t x k v=>exact Ov h hr
 |insert t x k v=>exact Ov h hr
 |slice t x lo hi U=>
  simp only[aQ] at h ⊢;unfold ll at h ⊢;split at h
  .exact h
  .split at h
   .rename_i hm;split at h
    .cases h;rw[hr _ oS,hm]
    .cases h
   .cases h
  .exact h
  .cases h
 |binOp op t x y _=>
  simp only[aQ] at h ⊢;split at h
  .rename_i M he;simp only[aK] at h;subst h
   have:kQ P m' op t (ρ x) y=some M:=by
    unfold kQ at he ⊢;split at he
    .exact he
    .split at he
     .rename_i hm;cases he;rw[hr _ oS,hm]
     .cases he
    .split at he
     .rename_i hm;cases he;rw[hr _ oS,hm]
     .cases he
    .cases he
   rw[this]
  .rename_i he;by_cases J:∃ i off,ρ x=.rp i off
   .obtain⟨i,off,C⟩:=J;rw[C] at h;simp[pq] at h
   .have:kQ P m' op t (ρ x) y=none:=by
     unfold kQ at he ⊢;split at he
     .cases he
     .rename_i i off C;exact absurd ⟨_,_,C⟩ J
     .rename_i i off C;exact absurd ⟨_,_,C⟩ J
     .simp_all
    rw[this];exact h
 |_=>
  first
  |exact h
  |(simp only[aQ] at h ⊢
    repeat' split at h
    all_goals first
     |(cases h;done)
     |exact h
     |(cases h;simp_all;done)
     |(simp_all;done))
end
end Go.Abs
namespace Go.Abs
open Go.ChangeShapes Go.WideShapes
inductive Sh
 |int (k:IntKind)
 |bool
 |str
 |sl (s:Sh)
 |unit
 |pair (a b:Sh)
def Sh.val:Sh->Type
 | .int _=>Int
 | .bool=>Bool
 | .str=>ByteArray
 | .sl s=>List s.val
 | .unit=>Unit
 | .pair a b=>a.val×b.val
def Sh.size:Sh->Nat
 | .unit=>0
 | .pair a b=>a.size+b.size
 |_=>1
def Sh.enc:(s:Sh)->s.val->List D
 | .int k,n=>[.s (.int k n)]
 | .bool,b=>[.s (.bool b)]
 | .str,b=>[.s (.string b)]
 | .sl s,l=>[.sl (List.flatMap s.enc l) (List.length l)]
 | .unit,_=>[]
 | .pair a b,x=>a.enc x.1++b.enc x.2
def Sh.r8:Sh->Bool
 | .int .u64=>false
 | .sl s=>s.r8
 | .pair a b=>a.r8&&b.r8
 |_=>true
def Sh.arg:(s:Sh)->s.val->D
 | .int k,n=>.s (.int k n)
 | .bool,b=>.s (.bool b)
 | .str,b=>.s (.string b)
 | .sl s,l=>.sl (List.flatMap s.enc l) (List.length l)
 | .unit,_=>.agg []
 | .pair a b,x=>.agg (a.enc x.1++b.enc x.2)
def Sh.ok:(s:Sh)->s.val->Prop
 | .int k,n=>(Lit.int k n).wf=true
 | .bool,_=>True
 | .str,b=>ByteArray.size b<=maxLen
 | .sl s,l=>∀ x:s.val,List.Mem x l->s.ok x
 | .unit,_=>True
 | .pair a b,x=>a.ok x.1/\b.ok x.2
theorem Sh.B6:∀ (s:Sh) (x:s.val),(s.enc x).length=s.size
 | .int _,_ | .bool,_ | .str,_ | .sl _,_ | .unit,_=>rfl
 | .pair a b,x=>by simp[Sh.enc,Sh.size,Sh.B6 a,Sh.B6 b]
section
variable(P:Program)
def wF(C:TypeId->Option Sh):Nat->List Field->Option Sh
 |_,[]=>some .unit
 |off,f::fs=>if f.offset=off then match C f.type,wF C (off+P.cellsOf f.type) fs with
  |some a,some b=>some (.pair a b)
  |_,_=>none
  else none
def tG:Nat->TypeId->Option Sh
 |0,_=>none
 |n+1,t=>match P.underlying t with
  |some .bool=>if P.cellsOf t=1 then some .bool else none
  |some (.int k)=>if P.cellsOf t=1 then some (.int k) else none
  |some .string=>if P.cellsOf t=1 then some .str else none
  |some (.slice e)=>if P.cellsOf t=1/\0<P.cellsOf e then(tG n e).map .sl else none
  |some (.struct fs)=>match wF P (tG n) 0 fs.toList with
   |some s=>if s.size=P.cellsOf t then some s else none
   |none=>none
  |_=>none
end
section
variable{P:Program}{H:Type}{ec:TypeId×Value->H}{w:World}{base:Nat}{spare:Nat->Bool}{held:Bool}{F:Nat->Prop}
def Holds(F:Nat->Prop)(w:World)(ds:List D)(cs:List Value):Prop:=ds.length=cs.length/\∀ (k:Nat) (d:D) (u:Value),ds[k]? =some d->cs[k]? =some u->R F gU w d u/\u.oneCell'=true
theorem Holds.app{ds C:List D}{cs cs':List Value}(h:Holds F w ds cs)(h':Holds F w C cs'):Holds F w (ds++C) (cs++cs'):=by
 refine⟨by simp[h.1,h'.1],fun k d u hd hu=>?_⟩;by_cases hk:k<ds.length
 .rw[List.getElem?_append_left hk] at hd;rw[List.getElem?_append_left (by have:=h.1;omega)] at hu;exact h.2 k d u hd hu
 .rw[List.getElem?_append_right oG] at hd;rw[List.getElem?_append_right (by have:=h.1;omega), <- h.1] at hu;exact h'.2 (k - ds.length) d u hd hu
theorem Holds.one{d:D}{u:Value}(h:R F gU w d u)(h':u.oneCell'=true):Holds F w [d] [u]:=⟨rfl,fun k d' C hd hu=>by
 cases k with
 |zero=>simp at hd hu;subst hd hu;exact⟨h,h'⟩
 |succ k=>simp at hd⟩
theorem Holds.nil:Holds F w [] []:=⟨rfl,oS⟩
theorem QS{C:TypeId->Option Sh}{off:Nat}{s:Sh}(h:wF P C off []=some s):s=.unit:=by
 simp only[wF,aK] at h;exact h.symm
theorem P4{C:TypeId->Option Sh}{off:Nat}{f:Field}{fs:List Field}{s:Sh}(h:wF P C off (f::fs)=some s):
 f.offset=off/\∃ a b,C f.type=some a/\wF P C (off+P.cellsOf f.type) fs=some b/\s=.pair a b:=by
 simp only[wF] at h;split at h
 .rename_i J;split at h
  .rename_i a b ha hb;simp only[aK] at h;exact⟨J,a,b,ha,hb,h.symm⟩
  .cases h
 .cases h
theorem Fw:∀ (n:Nat) (t:TypeId) (s:Sh),tG P n t=some s->s.size=P.cellsOf t
 |0,_,_,h=>by cases h
 |n+1,t,s,h=>by
  unfold tG at h;split at h
  .split at h
   .rename_i h1;simp only[aK] at h;subst h;exact h1.symm
   .cases h
  .split at h
   .rename_i h1;simp only[aK] at h;subst h;exact h1.symm
   .cases h
  .split at h
   .rename_i h1;simp only[aK] at h;subst h;exact h1.symm
   .cases h
  .split at h
   .rename_i h1;simp only[dm] at h;obtain⟨a,_,rfl⟩:=h;exact h1.1.symm
   .cases h
  .split at h
   .split at h
    .rename_i h1;simp only[aK] at h;subst h;exact h1
    .cases h
   .cases h
  .cases h
def Reads(P:Program)(F:Nat->Prop)(w:World)(C:TypeId->Option Sh)(rd:TypeId->List Value->Option (DataW H×List MemPlace)):Prop:=
 ∀ t s cs x,C t=some s->s.r8=true->cs.length=P.cellsOf t->rd t cs=some x->∃ v:s.val,s.ok v/\Holds F w (s.enc v) cs
theorem K0:∀ (s:Sh) (x:s.val),s.r8=true->∀ d∈s.enc x,∀ n:Int,¬ R F gU w d (.int .u64 n)
 | .int k,x,h,d,hd,n,hr=>by
  simp only[Sh.enc,List.mem_singleton] at hd;subst hd;cases hr;cases h
 | .bool,x,h,d,hd,n,hr=>by
  simp only[Sh.enc,List.mem_singleton] at hd;subst hd;cases hr
 | .str,x,h,d,hd,n,hr=>by
  simp only[Sh.enc,List.mem_singleton] at hd;subst hd;cases hr
 | .sl s,x,h,d,hd,n,hr=>by
  simp only[Sh.enc,List.mem_singleton] at hd;generalize List.flatMap s.enc x=es at hd;generalize List.length x=k at hd;subst hd;cases hr
 | .unit,x,h,d,hd,n,hr=>by simp[Sh.enc] at hd
 | .pair a b,x,h,d,hd,n,hr=>by
  simp only[Sh.r8,ay] at h;simp only[Sh.enc,List.mem_append] at hd;rcases hd with hd|hd
  .exact K0 a x.1 h.1 d hd n hr
  .exact K0 b x.2 h.2 d hd n hr
def Di(F:Nat->Prop)(w:World):Prop:=∀ b o u,F b->w.cell? ⟨b,o,none⟩=some u->∃ n,u=.int .u64 n
theorem QT{J:TypeId->Option Sh}{rd:TypeId->List Value->Option (DataW H×List MemPlace)}(hz:∀ t s,J t=some s->s.size=P.cellsOf t)(h:Reads P F w J rd){cs:List Value}:∀ (fs:List Field) (off:Nat) (s:Sh),wF P J off fs=some s->s.r8=true->off+s.size<=cs.length->
 (∀ f∈fs,∃ x,rd f.type ((cs.drop f.offset).take (P.cellsOf f.type))=some x)->∃ v:s.val,s.ok v/\Holds F w (s.enc v) ((cs.drop off).take s.size)
 |[],off,s,hs,_,_,_=>by
  obtain rfl:=QS hs;exact⟨(),trivial,by simp[Sh.enc,Sh.size,Holds]⟩
 |f::fs,off,s,hs,hn,hl,hr=>by
  obtain⟨U,a,b,ha,hb,rfl⟩:=P4 hs;simp only[Sh.r8,ay] at hn;obtain⟨x,hx⟩:=hr f oS;have kY:off+(a.size+b.size)<=cs.length:=hl;have bK:=hz _ _ ha;rw[U] at hx;obtain⟨v,O,hv⟩:=h f.type a _ x ha hn.1 (by simp only[List.length_take,List.length_drop];omega) hx;rw[<- bK] at hb hv;obtain⟨M,C,X⟩:=QT hz h fs (off+a.size) b hb hn.2 oG fun g hg=>hr g (by simp[hg]);refine⟨(v,M),⟨O,C⟩,?_⟩;have:=hv.app X;show Holds F w (a.enc v++b.enc M) ((cs.drop off).take (a.size+b.size));rw[List.take_add,List.drop_drop];exact this
theorem Jo{a:Addr}{n:Nat}{cs:List Value}(h:w.cells? base a n=some cs):cs.length=n/\∀ k,k<n->w.cell? (a.add k)=cs[k]? /\k<cs.length:=by
 unfold World.cells? at h;split at h
 .have hl:cs.length=n:=by simpa using mapM_some_length h
  exact⟨hl,fun k hk=>⟨mapM_some_get h k k (by simp[hk]),oG⟩⟩
 .cases h
theorem OG{α β:Type}{p:Nat->α->β->Prop}:∀ (n:Nat) (l:Nat->α),(∀ i,i<n->∃ y,p i (l i) y)->∃ ys:List β,ys.length=n/\∀ i (h:i<n) y,ys[i]? =some y->p i (l i) y
 |0,_,_=>⟨[],rfl,fun i h=>by omega⟩
 |n+1,l,h=>by
  obtain⟨ys,h1,h2⟩:=OG n l fun i hi=>h i oG;obtain⟨y,hy⟩:=h n oG;refine⟨ys++[y],by simp[h1],fun i hi z hz=>?_⟩;by_cases C:i<n
  .rw[List.getElem?_append_left oG] at hz;exact h2 i C z hz
  .have:i=n:=by omega
   subst this;rw[List.getElem?_append_right oG] at hz;simp[h1] at hz;subst hz;exact hy
theorem JP{α:Type}{f:α->List D}{sz:Nat}(hs:∀ x,(f x).length=sz):∀ (l:List α) (i j:Nat),j<sz->(l.flatMap f)[i*sz+j]? =(l[i]?).bind fun x=>(f x)[j]?
 |[],i,j,_=>by simp
 |x::l,0,j,h=>by simp[List.getElem?_append_left (show j<(f x).length by rw[hs];exact h)]
 |x::l,i+1,j,h=>by
  rw[List.flatMap_cons,List.getElem?_append_right (by rw[hs,Nat.add_mul];omega)];have:(i+1)*sz+j - (f x).length=i*sz+j:=by rw[hs,Nat.add_mul];omega
  rw[this,JP hs l i j h];simp
theorem Kn(hF:Di F w):∀ (dV n:Nat),Reads P F w (tG P n) (DataW.trod ec P w base spare held dV)
 |dV,0,t,s,cs,x,h,_,_,_=>by cases h
 |dV,n+1,t,s,cs,x,h,r9,hl,hr=>by
  have bK:=Fw _ _ _ h;unfold tG at h;split at h
  .rename_i ht;split at h
   .simp only[aK] at h;subst h;obtain⟨b,rfl,_⟩:=DataW.trod_bool ht hr;exact⟨b,trivial,.one (.s _ rfl) rfl⟩
   .cases h
  .rename_i k ht;split at h
   .simp only[aK] at h;subst h;obtain⟨b,rfl,_,hw⟩:=DataW.trod_int ht hr;exact⟨b,hw,.one (.s _ rfl) rfl⟩
   .cases h
  .rename_i ht;split at h
   .simp only[aK] at h;subst h;obtain⟨b,rfl,_,hw⟩:=DataW.trod_string ht hr;exact⟨b,hw,.one (.s _ rfl) rfl⟩
   .cases h
  .rename_i e ht;split at h
   .rename_i hc;simp only[dm] at h;obtain⟨a,ha,rfl⟩:=h;have haz:=Fw _ _ _ ha;rcases DataW.trod_slice ht hr with⟨rfl,_⟩|⟨ad,len,cap,Ua,rest,fl,rfl,rfl,_,hb,hlc,hm,hlen,Es,_,_⟩
    .exact⟨([]:List a.val),(fun x h=>nomatch h),.one (by exact .iz none 0) rfl⟩
    .have U5:∀ i,i<len->∃ C:List Value,w.cells? base (ad.add (i*P.cellsOf e)) (P.cellsOf e)=some C/\∃ y,DataW.trod ec P w base spare held fl e C=some y:=fun i hi=>by
      have:=Es i hi;have hg:Ua[i]? =some Ua[i]:=by simp[hlen,hi]
      rw[hg,Option.bind_eq_some_iff] at this;obtain⟨C,h1,h2⟩:=this;exact⟨C,h1,_,h2⟩
     have DL:∀ i,i<len->∃ v:a.val,a.ok v/\∃ C,w.cells? base (ad.add (i*P.cellsOf e)) (P.cellsOf e)=some C/\Holds F w (a.enc v) C:=fun i hi=>by
      obtain⟨C,h1,y,h2⟩:=U5 i hi;obtain⟨v,O,hv⟩:=Kn hF fl n e a C y ha r9 (Jo h1).1 h2;exact⟨v,O,C,h1,hv⟩
     obtain⟨vs,qv,H0⟩:=OG (p:=fun(i:Nat) (_:Nat) (v:a.val)=>a.ok v/\∃ C,w.cells? base (ad.add (i*P.cellsOf e)) (P.cellsOf e)=some C/\Holds F w (a.enc v) C) len (fun i=>i) DL
     have U:∀ x:a.val,x∈vs->a.ok x:=fun x hm=>by
      obtain⟨i,hx⟩:=dY hm;exact(H0 i (by have:=(bZ.1 hx).1;omega) x hx).1
     cases len with
     |zero=>
      have:vs=[]:=List.length_eq_zero_iff.1 qv;subst this;exact⟨([]:List a.val),(fun x h=>nomatch h),.one (by exact .iz _ cap) rfl⟩
     |succ l=>
      obtain⟨C,h0,_⟩:=U5 0 oG;have zj:=(Jo h0).2 0 hc.2;simp only[Nat.zero_mul,Addr.add,if_true] at zj;obtain⟨b,o,sp⟩:=ad;have GM:∃ u,w.cell? ⟨b,o,sp⟩=some u:=⟨C[0],by rw[zj.1];simp[zj.2]⟩
      obtain⟨u0,J⟩:=GM;unfold World.cell? at J
      have l8:b<w.heap.size:=by
       cases hh:w.heap[b]? with
       |none=>rw[hh] at J;cases J
       |some x=>exact(Array.getElem?_eq_some_iff.1 hh).1
      have pR:sp=none:=by
       cases sp with
       |none=>rfl
       |some q=>
        simp only at J;split at J
        .simp at J
        .cases J
      subst pR
      have X:∀ i j,((⟨b,o,none⟩:Addr).add i).add j=⟨b,o+(i+j),none⟩:=fun i j=>by
       unfold Addr.add;split<;>split<;>simp_all;omega
      have hk:∀ k d,(vs.flatMap a.enc)[k]? =some d->∃ u,w.cell? ⟨b,o+k,none⟩=some u/\R F gU w d u/\u.oneCell'=true:=fun k d hd=>by
       have M:0<a.size:=by omega
       have uT:k / a.size*a.size+k % a.size=k:=by rw[Nat.mul_comm];exact Nat.div_add_mod k a.size
       have BB:=Nat.mod_lt k M;rw[<- uT,JP a.B6 _ _ _ BB,Option.bind_eq_some_iff] at hd;obtain⟨x,hx,hd⟩:=hd
       have hi:k / a.size<l+1:=by
        have:=(bZ.1 hx).1;omega
       obtain⟨_,C,hci,hho⟩:=H0 _ hi x hx;obtain⟨h1,h2⟩:=(Jo hci).2 (k % a.size) oG;rw[X, <- haz,uT] at h1;refine⟨C[k % a.size],by rw[h1];simp[h2],hho.2 _ d _ hd (by simp[h2])⟩
      have uZ:¬ F b:=fun hb=>by
       obtain⟨x0,hx0⟩:∃ x0,vs[0]? =some x0:=⟨_,bB (show 0<vs.length by omega)⟩
       have M:0<a.size:=by omega
       obtain⟨d0,jB⟩:∃ d0,(vs.flatMap a.enc)[0]? =some d0:=by
        have:=JP a.B6 vs 0 0 M;rw[Nat.zero_mul,Nat.zero_add,hx0] at this;rw[this];exact⟨_,bB (by rw[a.B6];exact M)⟩
       obtain⟨u,h1,h2,_⟩:=hk 0 d0 jB;obtain⟨q,rfl⟩:=hF _ _ _ hb h1;obtain⟨x1,EF,cK⟩:=List.mem_flatMap.1 (cX jB);exact K0 a x1 r9 d0 cK q h2
      refine⟨vs,fun x h=>U x h,.one (by
       have zo:(List.length vs)=l+1:=qv;show R _ _ _ (.sl (List.flatMap a.enc vs) (List.length vs)) _;rw[zo];refine .sl _ _ b o cap (fun k=>(w.cell? ⟨b,o+k,none⟩).getD undef) uZ (fun _ _ h=>by cases h) l8 hlc hm (fun k mR=>?_) fun k d hd=>?_
       .obtain⟨u,h1,_,h3⟩:=hk k _ (bB mR);simp[h1,h3]
       .obtain⟨u,h1,h2,_⟩:=hk k d hd
        simpa[h1] using h2) rfl⟩
   .cases h
  .rename_i fs ht;obtain⟨xs,fl,rfl,_,_,Bn,qB⟩:=DataW.trod_struct ht hr;split at h
   .rename_i s' ek;split at h
    .rename_i hs;simp only[aK] at h;subst h
     obtain⟨v,O,hv⟩:=QT (P:=P) (w:=w) (fun t s=>Fw n t s) (Kn hF fl n) (cs:=cs) fs.toList 0 s' ek r9 oG fun f hf=>by
      obtain⟨i,hi,rfl⟩:=Array.getElem_of_mem (Array.mem_toList_iff.1 hf);have:=qB i fs[i] (by simp[hi]);exact⟨xs[i],by rw[this];simp[Bn,hi]⟩
     refine⟨v,O,?_⟩;rw[List.drop_zero,dO oG] at hv;exact hv
    .cases h
   .cases h
  .cases h
theorem afN(X:Di F w){r:Reach}{b0:Nat}{t:TypeId}{v:Value}{d:DataW H}{ps:List MemPlace}{n:Nat}{s:Sh}(hs:tG P n t=some s)(r9:s.r8=true)(hv:Value.okWide P w r b0 t v)(hd:DataW.Trod ec P w base spare held t v d ps):
 ∃ x:s.val,s.ok x/\R F gU w (s.arg x) v:=by
 cases n with
 |zero=>cases hs
 |succ n=>
  obtain⟨dV,hf⟩:=hd;have hz:=Fw _ _ _ hs;have key:v.cells.toList.length=P.cellsOf t->∃ x:s.val,s.ok x/\Holds F w (s.enc x) v.cells.toList:=fun hl=>Kn X dV (n+1) t s _ _ hs r9 hl hf;unfold tG at hs;split at hs
  .rename_i ht;obtain⟨b,rfl⟩:=okWide_bool ht hv;split at hs
   .simp only[aK] at hs;subst hs;exact⟨b,trivial,.s _ rfl⟩
   .cases hs
  .rename_i k ht;obtain⟨b,rfl⟩:=okWide_int ht hv;split at hs
   .simp only[aK] at hs;subst hs;obtain⟨c,hc,_,J⟩:=DataW.trod_int ht hf;simp[Value.cells] at hc;subst hc;exact⟨b,J,.s _ rfl⟩
   .cases hs
  .rename_i ht;obtain⟨b,rfl⟩:=okWide_string ht hv;split at hs
   .simp only[aK] at hs;subst hs;obtain⟨c,hc,_,J⟩:=DataW.trod_string ht hf;simp[Value.cells] at hc;subst hc;exact⟨b,J,.s _ rfl⟩
   .cases hs
  .rename_i e ht;obtain⟨a,len,cap,rfl⟩:=okWide_slice ht hv;split at hs
   .rename_i h1;simp only[dm] at hs;obtain⟨q,_,rfl⟩:=hs;obtain⟨x,M,hx⟩:=key h1.1.symm;exact⟨x,M,(hx.2 0 _ _ rfl rfl).1⟩
   .cases hs
  .rename_i fs ht;obtain⟨cs,rfl,bK⟩:=okWide_struct ht hv;obtain⟨x,M,hx⟩:=key (by simpa[Value.cells] using bK);refine⟨x,M,?_⟩
   have ha:s.arg x=.agg (s.enc x):=by
    split at hs
    .rename_i s' C;split at hs
     .simp only[aK] at hs;subst hs;cases O:fs.toList with
      |nil=>
       rw[O] at C;obtain rfl:=QS C;rfl
      |cons f U=>
       rw[O] at C;obtain⟨_,a,b,_,_,rfl⟩:=P4 C;rfl
     .cases hs
    .cases hs
   rw[ha];have:=hx.1;simp only[Value.cells] at this hx;have e:cs=cs.toList.toArray:=by simp
   rw[e];exact .agg _ cs.toList this.symm fun k d v h1 h2=>(hx.2 k d v h1 h2).1
  .cases hs
theorem JQ{α β:Type}(f:α->β):∀ l:List α,(l.flatMap fun x=>[f x])=l.map f
 |[]=>rfl
 |x::l=>by rw[List.flatMap_cons,JQ f l];rfl
theorem O3{α β γ:Type}{f:α->List γ}{g:β->List γ}{h:α->β}(he:∀ x,f x=g (h x)):∀ l:List α,l.flatMap f=(l.map h).flatMap g
 |[]=>rfl
 |x::l=>by rw[List.flatMap_cons,List.map_cons,List.flatMap_cons,he,O3 he l]
end
end Go.Abs
namespace Go.Abs
abbrev Fe(r:Option Nat):Fence:={ fn:=fun _=>True,depth:=none,alive:=false,round:=r }
theorem Fk{r:Option Nat}{n:Nat}{P:Program}{f:FuncId}{args:Array Value}{w:World}{R:Ending->World->Prop}(h:Calls P f args w R):CallsIn (Fe r) n P f args w R:=
 (callsIn_wide.2 h:CallsIn Fence.wide n P f args w R)
def gV(r:Option Nat)(n:Nat)(P:Program)(ops:Array Oper)(QX:Exit->Act->World->Prop)(o:Oper)(K:Act->World->Prop)(a:Act)(w:World):Prop:=
 if Region.wanted o (yielded ops a.tmps) then o.wpIn (Fe r) n P a w K QX else(∀ f,o.about P w a.eval=some f->(Fe r).fn f)/\K (a.put o.dst undef) w
section
variable{P:Program}{ops:Array Oper}
theorem zJ{r:Option Nat}{n:Nat}{QX:Exit->Act->World->Prop}{i:Nat}{o:Oper}(hi:ops[i]? =some o){K:Act->World->Prop}{a:Act}{w:World}(h:gV r n P ops QX o K a w):
 wpOpIn (Fe r) n P ops QX i K a w:=by
 unfold wpOpIn;simp only[hi];exact h
structure bf where
 val:D
 aT:List (Nat×Option Row):=[]
 rd:List Nat:=[]
 new:Nat:=0
def bf.wr(p:bf):List Nat:=p.aT.map (·.1)
def bf.Ok(P:Program)(ops:Array Oper)(o:Oper)(st:St)(p:bf):Prop:=
 ∀ (F:Nat->Prop) (β:az) (w:World) (a:Act) (m:Mem) (env:Env) (N:Nat),(∀ t∈o.looksAt ops,env t=st.env t)->eZ F β w env a->aC P F m β w->
  (∀ i∈p.rd,st.mem i≠none->m i=st.mem i)->(∀ i,st.nx<=i->i<st.nx+p.new->β i=none)->(∀ i,N<=i->β i=none)->
  ∀ (r:Option Nat) (n:Nat) (QX:Exit->Act->World->Prop) (K:Act->World->Prop),
   (∀ v w' β',R F β' w' p.val v->aC P F (cu m p.aT) β' w'->Step β w β' w'->(∀ i,β i=none->(i<st.nx\/st.nx+p.new<=i)->β' i=none)->K (a.put o.dst v) w')->
   gV r n P ops QX o K a w
structure bf.mK(p:bf)(k:Nat)(st:St):Prop where
 wr:∀ i∈p.wr,st.mem i≠none\/(st.nx<=i/\i<st.nx+p.new)
 k0:k=0->p.rd=[]/\p.aT=[]
 k1:k=1->p.aT=[]
 k3:k=3->p.rd=[]/\∀ i∈p.wr,st.nx<=i
theorem yc{r:Option Nat}{o:Oper}(h:∀ c,o.op≠ .defer c)(ρ:Operand->Value):o.semAt r ρ=execOp ρ o:=Oper.semAt_eq r ρ o h
theorem abc{F:Nat->Prop}{β:az}{w:World}{env:Env}{a:Act}(M:eZ F β w env a){j t:Nat}{b c:Bool}(ht:(ops[j]?).bind (·.dst)=some t)(hc:ku (env t) b=some c):
 (yielded ops a.tmps j==some b)=c:=by
 have h:=M t
 have hy:yielded ops a.tmps j=match a.tmps[t]? with|some (.bool b)=>some b|_=>none:=by
  unfold yielded;rw[ht];rfl
 have hq:∀ x:Value,a.tmps.getD t undef=x->x≠undef->a.tmps[t]? =some x:=fun x hx C=>by
  simp only[Array.getD_eq_getD_getElem?] at hx;cases hg:a.tmps[t]? with
  |none=>rw[hg] at hx;exact absurd hx.symm C
  |some y=>rw[hg] at hx;simpa using hx
 have hf:∀ {d:D},R F β w (.cG false d) (a.tmps.getD t undef)->c=false->(yielded ops a.tmps j==some b)=c:=fun {d} h O=>by
  generalize hv:a.tmps.getD t undef=v at h;cases h with
  |cG _ _ _ h1 h2=>
   have:=h2 rfl;rw[hy,O];simp only[Array.getD_eq_getD_getElem?] at hv;cases hg:a.tmps[t]? with
   |none=>simp
   |some y=>
    rw[hg] at hv;simp only[Option.getD_some] at hv;rw[hv,this];simp[undef]
 unfold ku at hc;split at hc
 .rename_i g U e;rw[e] at h;have:=h.cJ.1;rw[hy,hq _ this (by simp[undef])];simpa using hc
 .rename_i _ J d e;rw[e] at h;cases J with
  |false=>
   refine hf h ?_;split at hc<;>simpa using hc.symm
  |true=>
   split at hc
   .generalize hv:a.tmps.getD t undef=v at h;cases h with
    |cG _ _ _ h1 h2=>
     have:=(h1 rfl).cJ.1;rw[hy,hq _ (hv.trans this) (by simp[undef])];simpa using hc
   .simp at hc
 .cases hc
end
section
variable{P:Program}{ops:Array Oper}{o:Oper}{st:St}
theorem WA{m:Mem}{sz:Nat}{d:D}{p:Prop}{rd:List Nat}{n:Nat}{cs:List D}(h:iG m sz d=some (p,rd,n,cs)):∀ i∈rd,m i≠none:=by
 unfold iG at h;split at h
 .cases h;simp
 .cases h;simp
 .split at h
  .rename_i hm;cases h;simp[hm]
  .cases h
 .cases h
theorem Oj{m:Mem}{t:TypeId}{x k:D}{ok:Bool}{e:du}(h:ng P m t x k ok=some e):e.aT=[]/\e.new=0/\∀ i∈e.rd,m i≠none:=by
 unfold ng at h;split at h
 .split at h
  .rename_i hm;cases h;simp[hm]
  .cases h
 .cases h;simp
 .cases h;simp
 .cases h
theorem EM{m:Mem}{t:TypeId}{x k v:D}{e:du}(h:nh P m t x k v=some e):(∀ i∈e.aT.map (·.1),m i≠none)/\∀ i∈e.rd,m i≠none:=by
 unfold nh at h;split at h
 .split at h
  .rename_i hm;cases h;simp[hm]
  .cases h
 .cases h
theorem Ol{m:Mem}{t:TypeId}{x k:D}{e:du}(h:tR P m t x k=some e):(∀ i∈e.aT.map (·.1),m i≠none)/\∀ i∈e.rd,m i≠none:=by
 unfold tR at h;split at h
 .split at h
  .rename_i hm;cases h;simp[hm]
  .cases h
 .cases h
theorem Ju{op:Op}{ρ:Operand->D}{m:Mem}{nx:Nat}{e:du}(h:aQ P op ρ m nx=some e):
 (∀ i∈e.aT.map (·.1),m i≠none\/(nx<=i/\i<nx+e.new))/\(cD op=0->e.rd=[]/\e.aT=[])/\(cD op=1->e.aT=[])/\(cD op=3->e.rd=[]/\∀ i∈e.aT.map (·.1),nx<=i):=by
 cases op with
 |call c=>
  have h0:(∀ i∈e.aT.map (·.1),m i≠none\/(nx<=i/\i<nx+e.new))/\(c.callee=.builtin .len->e.aT=[])/\(c.callee=.builtin .min->e.rd=[]/\e.aT=[]):=by
   simp only[aQ] at h;split at h
   .rename_i b hb;split at h
    .unfold eI at h;split at h
     .refine⟨?_,fun _=>?_,fun hx=>(by rw[hx] at hb;cases hb)⟩<;>
      .unfold lD at h;split at h<;>first|(cases h;simp;done)|skip
       all_goals first|(cases h;done)|skip
       all_goals (split at h<;>first|(cases h;simp;done)|(cases h;done))
     .refine⟨?_,fun hx=>(by rw[hx] at hb;cases hb),fun hx=>(by rw[hx] at hb;cases hb)⟩;split at h
      .unfold p0 at h;simp only at h;split at h
       .cases h
       .rename_i hc;split at h
        .cases h;simp
        .split at h
         .rename_i hm;cases h;intro i hi;simp only[List.map_cons,List.map_nil,List.mem_cons,List.not_mem_nil,or_false] at hi;rcases hi with rfl|rfl
          .left;simp[hm]
          .right;simp
         .cases h
        .cases h
      .cases h
     .cases h;refine⟨oS,fun _=>rfl,fun _=>⟨rfl,rfl⟩⟩
     .refine⟨?_,fun hx=>(by rw[hx] at hb;cases hb),fun hx=>(by rw[hx] at hb;cases hb)⟩;split at h
      .rename_i hm;cases h;simp[hm]
      .cases h
     .exact⟨fun i hi=>.inl ((Ol h).1 i hi),fun hx=>(by rw[hx] at hb;cases hb),fun hx=>(by rw[hx] at hb;cases hb)⟩
     .cases h
    .cases h
   .cases h
  refine⟨h0.1,fun hk=>?_,fun hk=>?_,fun hk=>?_⟩
  .unfold cD at hk;split at hk<;>first|(cases hk;done)|skip
   all_goals first|(rename_i hx;injection hx with hx;subst hx;exact h0.2.2 rfl)|(simp_all;done)
  .unfold cD at hk;split at hk<;>first|(cases hk;done)|skip
   all_goals first|(rename_i hx;injection hx with hx;subst hx;exact h0.2.1 rfl)|(simp_all;done)
  .unfold cD at hk;split at hk<;>first|(cases hk;done)|skip
   all_goals simp_all
 |binOp op t x y _=>
  simp only[aQ] at h;split at h
  .rename_i C he;simp only[aK] at h;subst h
   have h0:C.aT=[]/\(op=.eql\/op=.neq):=by
    unfold kQ at he;split at he
    .cases he;exact⟨rfl,.inl rfl⟩
    .split at he
     .cases he;exact⟨rfl,.inl rfl⟩
     .cases he
    .split at he
     .cases he;exact⟨rfl,.inr rfl⟩
     .cases he
    .cases he
   refine⟨by simp[h0.1],fun hk=>?_,fun _=>h0.1,fun hk=>?_⟩
   .rcases h0.2 with rfl|rfl<;>simp[cD] at hk
   .rcases h0.2 with rfl|rfl<;>simp[cD] at hk
  .cases hb:pq P op t (ρ x) (ρ y) with
   |none=>rw[hb] at h;cases h
   |some r=>rw[hb] at h;cases h;simp
 |lookup t x k ok=>
  have:=Oj h;refine⟨by simp[this.1],fun hk=>?_,fun _=>this.1,fun hk=>?_⟩<;>simp[cD] at hk
 |mapUpdate t x k v=>
  refine⟨fun i hi=>.inl ((EM h).1 i hi),fun hk=>?_,fun hk=>?_,fun hk=>?_⟩<;>simp[cD] at hk
 |insert t x k v=>
  refine⟨fun i hi=>.inl ((EM h).1 i hi),fun hk=>?_,fun hk=>?_,fun hk=>?_⟩<;>simp[cD] at hk
 |slice t x lo hi J=>
  have h0:e.aT=[]:=by
   simp only[aQ] at h;unfold ll at h
   repeat' split at h
   all_goals first|(cases h;done)|(cases h;rfl)
  refine⟨by simp[h0],fun hk=>?_,fun _=>h0,fun hk=>?_⟩<;>simp[cD] at hk
 |_=>
  first
  |(simp only[aQ] at h;cases h;simp[cD];done)
  |(simp only[aQ] at h
    repeat' split at h
    all_goals first
     |(cases h;done)
     |(cases h;simp_all[cD];done)
     |(simp only[dm] at h;obtain⟨x,hx,rfl⟩:=h;simp[cD];done))
def fP(ops:Array Oper)(o:Oper)(st:St)(c:Bool):Prop:=
 ∀ (F:Nat->Prop) (β:az) (w:World) (a:Act) (env:Env),(∀ t∈o.looksAt ops,env t=st.env t)->eZ F β w env a->Region.wanted o (yielded ops a.tmps)=c
theorem xB(h:o.guard=none):fP ops o st true:=fun _ _ _ _ _ _ _=>by simp[Region.wanted,h]
theorem IN{j t:Nat}{b c:Bool}(h:o.guard=some (j,b))(ht:(ops[j]?).bind (·.dst)=some t)(hc:ku (st.env t) b=some c):fP ops o st c:=fun F β w a env he C=>by
 have:=he t (by simp[Oper.looksAt,h,ht]);rw[<- this] at hc;have h1:=abc C ht hc;simpa[Region.wanted,h] using h1
theorem vC{env:Env}(he:∀ t∈o.looksAt ops,env t=st.env t):∀ t,Operand.tmp t∈o.op.operands->env t=st.env t:=fun t ht=>
 he t (List.mem_append_left _ (List.mem_filterMap.2 ⟨.tmp t,by simpa using ht,rfl⟩))
theorem FF(M:fP ops o st false)(d:D)(hd:∀ F β w,R F β w d undef):bf.Ok P ops o st ⟨d,[],[],0⟩:=by
 intro F β w a m env N he C hm hr hn O r n QX K J;unfold gV;rw[M F β w a env he C,if_neg oS];exact⟨fun _ _=>trivial,J undef w β (hd F β w) hm (Step.refl β w) fun _ h _=>h⟩
theorem Sd{c:Bool}{d:D}{rd:List Nat}(O:fP ops o st c)(h:c=true->bf.Ok P ops o st ⟨d,[],rd,0⟩):bf.Ok P ops o st ⟨.cG c d,[],rd,0⟩:=by
 intro F β w a m env N he C hm hr hn M r n QX K J;cases c with
 |true=>exact h rfl F β w a m env N he C hm hr hn M r n QX K fun v w' β' h1=>J v w' β' (.cG true d v (fun _=>h1) oS)
 |false=>
  have:=FF (P:=P) O (.cG false d) fun F β w=>.cG false d undef oS fun _=>rfl;exact this F β w a m env N he C hm oS hn M r n QX K J
theorem Ra{F:Nat->Prop}{m:Mem}{nx:Nat}{β:az}{w:World}{a:Act}{e:du}(ef:∀ c,o.op≠ .defer c)(X:Region.wanted o (yielded ops a.tmps)=true)(h:aN P F m nx β w e (execOp a.eval o))
 {r:Option Nat} {n:Nat} {QX:Exit->Act->World->Prop} {K:Act->World->Prop}
 (U:∀ v w' β',R F β' w' e.val v->aC P F (cu m e.aT) β' w'->Step β w β' w'->(∀ i,β i=none->(i<nx\/nx+e.new<=i)->β' i=none)->K (a.put o.dst v) w'):
 gV r n P ops QX o K a w:=by
 obtain⟨uQ,v,w',β',h1,h2,C,J,M,O⟩:=h;unfold gV;rw[X,if_pos rfl];refine⟨fun _ _=>trivial,?_⟩;rw[yc ef,h1];rcases h2 with rfl|⟨rfl,rfl⟩
 .exact U v w' β' C J M O
 .exact U undef w' β' C J M O
theorem Yj{op:Op}{ρ:Operand->D}{m:Mem}{nx:Nat}{e:du}(h:aQ P op ρ m nx=some e):∀ c,op≠ .defer c:=fun c hc=>by
 subst hc;simp[aQ] at h
theorem OA{op:Op}{ρ:Operand->D}{x:FuncId×List D}(h:dx ρ op=some x):∀ c,op≠ .defer c:=fun c hc=>by
 subst hc;simp[dx] at h
theorem acd{op:Op}{ρ:Operand->D}{m:Mem}{nx:Nat}{e:du}(h:aQ P op ρ m nx=some e):∀ i∈e.rd,m i≠none:=by
 cases op with
 |call c=>
  simp only[aQ] at h;split at h
  .split at h
   .unfold eI at h;split at h
    .unfold lD at h;split at h<;>first|(cases h;simp;done)|skip
     all_goals first|(cases h;done)|skip
     all_goals (split at h<;>first|(rename_i hm;cases h;simp[hm];done)|(cases h;done))
    .split at h
     .unfold p0 at h;simp only at h;split at h
      .cases h
      .rename_i hc;have h1:=WA hc;split at h
       .cases h;exact h1
       .split at h
        .rename_i hm;cases h;intro i hi;simp only[List.mem_cons] at hi;rcases hi with rfl|hi
         .simp[hm]
         .exact h1 i hi
        .cases h
       .cases h
     .cases h
    .cases h;simp
    .split at h
     .rename_i hm;cases h;simp[hm]
     .cases h
    .exact(Ol h).2
    .cases h
   .cases h
  .cases h
 |binOp op t x y _=>
  simp only[aQ] at h;split at h
  .rename_i C he;simp only[aK] at h;subst h;unfold kQ at he;split at he
   .cases he;simp
   .split at he
    .rename_i hm;cases he;simp[hm]
    .cases he
   .split at he
    .rename_i hm;cases he;simp[hm]
    .cases he
   .cases he
  .cases hb:pq P op t (ρ x) (ρ y) with
   |none=>rw[hb] at h;cases h
   |some r=>rw[hb] at h;cases h;simp
 |lookup t x k ok=>exact(Oj h).2.2
 |mapUpdate t x k v=>exact(EM h).2
 |insert t x k v=>exact(EM h).2
 |slice t x lo hi J=>
  simp only[aQ] at h;unfold ll at h
  repeat' split at h
  all_goals first|(cases h;done)|(cases h;simp_all;done)
 |_=>
  first
  |(simp only[aQ] at h;cases h;simp;done)
  |(simp only[aQ] at h
    repeat' split at h
    all_goals first
     |(cases h;done)
     |(cases h;simp_all;done)
     |(simp only[dm] at h;obtain⟨x,hx,rfl⟩:=h;simp;done))
theorem ZI{op:Op}{ρ:Operand->D}{m m':Mem}{nx:Nat}{e:du}(h:aQ P op ρ m nx=some e)(hr:∀ i∈e.rd,m i≠none->m' i=m i):aQ P op ρ m' nx=some e:=
 aa5 h fun i hi=>hr i hi (acd h i hi)
theorem KA{e:du}(O:fP ops o st true)(ha:asks st.env o.op)(h:aQ P o.op (bC st.env o.op) st.mem st.nx=some e)(hp:e.pre):bf.Ok P ops o st ⟨e.val,e.aT,e.rd,e.new⟩:=by
 intro F β w a m env N he C hm hr hn U r n QX K M;have J:=vC he;refine Ra (m:=m) (nx:=st.nx) (β:=β) (F:=F) (Yj h) (O F β w a env he C) (Ph hm (fun h1=>hn st.nx (bO _) (by simp[h1])) C (by rw[xH J];exact ha) ?_ hp) M;rw[aa4 (vK J)];exact ZI h hr
theorem z8{F:Nat->Prop}{β:az}{w:World}{a:Act}{env:Env}{f:FuncId}{args:List D}(M:Region.wanted o (yielded ops a.tmps)=true)(C:eZ F β w env a)(ha:asks env o.op)
 (h:dx (bC env o.op) o.op=some (f,args)) (he:lf P f=true) {r:Option Nat} {n:Nat} {QX:Exit->Act->World->Prop} {K:Act->World->Prop}
 (J:∀ vs,Rs F β w args vs->Calls P f vs w fun e w'=>∃ v,e=.returned v/\K (a.put o.dst v) w'):gV r n P ops QX o K a w:=by
 obtain⟨vs,h1,h2⟩:=OI (F:=F) (β:=β) (w:=w) C ha h he;unfold gV;rw[M,if_pos rfl];refine⟨fun _ _=>trivial,?_⟩;rw[yc (OA h),h1];refine⟨oS,Fk ((J vs h2).mono ?_)⟩;rintro e w' ⟨v,rfl,hk⟩;exact hk
theorem J1{f:FuncId}{args:List D}{r:D}(X:fP ops o st true)(ha:asks st.env o.op)(h:dx (bC st.env o.op) o.op=some (f,args))(hc:ax P f args r):bf.Ok P ops o st ⟨r,[],[],0⟩:=by
 intro F β w a m env N he C hm hr hn hN r n QX K U;have J:=vC he;refine z8 (args:=args) (X F β w a env he C) C (by rw[xH J];exact ha) (by rw[zT (vK J)];exact h) hc.1 fun vs hR=>?_;refine(O6 hm hc hR).mono fun e w' ⟨v,h1,h2,M,O⟩=>⟨v,h1,U v w' β h2 M O fun _ h _=>h⟩
theorem Rh{f:FuncId}{args J:List D}{r:D}{bx:List Nat}(hw:fP ops o st true)(ha:asks st.env o.op)(h:dx (bC st.env o.op) o.op=some (f,args))(hs:nH P bx st.mem args J)(hc:ax P f J r)(hr:r.jK=true):
 bf.Ok P ops o st ⟨r,[],bx,0⟩:=by
 intro F β w a m env N he C hm O hn hN r n QX K hK;have M:=vC he;refine z8 (args:=args) (hw F β w a env he C) C (by rw[xH M];exact ha) (by rw[zT (vK M)];exact h) hc.1 fun vs hR=>?_;refine(O7 hm hs O hc (Xc hr) hR).mono fun e w' ⟨v,h1,h2,U,X⟩=>⟨v,h1,hK v w' β h2 U X fun _ h _=>h⟩
theorem Se{f:FuncId}{args es:List D}{n:Nat}{t:TypeId}(hw:fP ops o st true)(ha:asks st.env o.op)(h:dx (bC st.env o.op) o.op=some (f,args))(hc:qY P f args es n t):
 bf.Ok P ops o st ⟨.rs st.nx 0 n,[(st.nx,some (.cells es t))],[],1⟩:=by
 intro F β w a m env N he C hm bU hn hN r n QX K hK;have J:=vC he;refine z8 (args:=args) (hw F β w a env he C) C (by rw[xH J];exact ha) (by rw[zT (vK J)];exact h) hc.1 fun vs hR=>?_;refine(Zl hm (hn st.nx (bO _) oS) hc hR).mono fun e w' ⟨v,β',h1,h2,O,U,X⟩=>⟨v,h1,hK v w' β' h2 O U fun i hi M=>?_⟩
 rw[X i (by simp only at M;omega)];exact hi
theorem ace{f:FuncId}{args:List D}{r:D}{aT:List (Nat×Option Row)}{bx:List Nat}(hw:fP ops o st true)(ha:asks st.env o.op)(h:dx (bC st.env o.op) o.op=some (f,args))
 (hc:∀ C M,(∀ i∈bx,st.mem i≠none->C i=st.mem i)->ji P f args C M fun r' m' aA=>r'=r/\m'=cu C aT/\aA=M):bf.Ok P ops o st ⟨r,aT,bx,0⟩:=by
 intro F β w a m env N he J hm U hn hN ro n QX K hK;have O:=vC he;have hc:=hc m N U;refine z8 (args:=args) (hw F β w a env he J) J (by rw[xH O];exact ha) (by rw[zT (vK O)];exact h) hc.1 fun vs hR=>?_;refine(hc.2 F β w vs hm hN hR).mono fun e w' hp=>?_;obtain⟨v,d,m',aA,β',h1,⟨X,e2,e3⟩,h3,h4,h5,h6,_,h7⟩:=hp;subst X e2 e3;refine⟨v,h1,hK v w' β' h5 h3 h6 fun i hi _=>?_⟩;rcases Nat.lt_or_ge i aA with h|h
 .exact h7 i h hi
 .exact h4 i h
theorem Jv(b:List (Nat×Option Row)):∀ (a:List (Nat×Option Row)) (m:Mem),cu m (a++b)=cu (cu m a) b
 |[],_=>rfl
 |(i,r)::a,m=>Jv b a (up m i r)
theorem Pj{i:Nat}{r:Row}:∀ {us:List (Nat×Option Row)} {m:Mem},cu m us i=some r->(∃ x∈us,x.1=i/\x.2=some r)\/m i=some r
 |[],_,h=>.inr h
 |(j,s)::us,m,h=>by
  rcases Pj (us:=us) (m:=up m j s) h with⟨x,hx,e⟩|h
  .exact .inl ⟨x,by simp[hx],e⟩
  .by_cases hj:i=j
   .subst hj;rw[au] at h;exact .inl ⟨(i,s),oS,rfl,h⟩
   .rw[bE _ _ hj] at h;exact .inr h
theorem OW{i:Nat}:∀ {us:List (Nat×Option Row)} {m m':Mem},m i=m' i->cu m us i=cu m' us i
 |[],_,_,h=>h
 |(j,s)::us,m,m',h=>OW (us:=us) (by simp only[up];split<;>simp[h])
theorem Qh{i:Nat}:∀ {us:List (Nat×Option Row)} {m:Mem},(∀ x∈us,x.1≠i)->cu m us i=m i
 |[],_,_=>rfl
 |(j,s)::us,m,h=>by
  rw[cu,Qh (us:=us) fun x hx=>h x (by simp[hx])];exact bE _ _ fun e=>h (j,s) oS e.symm
theorem Jw{F F':Nat->Prop}{β β':az}{w:World}{r:Row}{p:Pl}(hr:Fy r)(h:cO P F β w r p):cO P F' β' w r p:=by
 obtain⟨cs,e,rfl,hs⟩:=hr;cases h with
 |nil _=>exact .nil _
 |cells _ _ b o room sz c h1 h2 C J M=>
  refine .cells cs e b o room sz c h1 h2 C J fun k d hd=>?_;obtain⟨u,O,U,X⟩:=M k d hd;exact⟨u,O,RZ (hs d (cX hd)) U,X⟩
theorem Tl{F F':Nat->Prop}{β β':az}{w:World}{i j off k:Nat}{v:Value}(hb:β' j=β i)(h:R F β w (.rs i off k) v):R F' β' w (.rs j off k) v:=by
 cases h with
 |lG _ _ _ _ h hv=>exact .lG j off k v (hb.trans h) hv
 |jR _ a h=>exact .jR j a (hb.trans h)
 |kX _ _ a b o len room sz h=>exact .kX j off a b o len room sz (hb.trans h)
 |rs _ _ _ cap b o len room sz h h1 h2 C J=>exact .rs j off k cap b o len room sz (hb.trans h) h1 h2 C J
theorem ZJ{f:FuncId}{args es:List D}{n:Nat}{t:TypeId}{aT:List (Nat×Option Row)}{bx:List Nat}(hw:fP ops o st true)(ha:asks st.env o.op)(h:dx (bC st.env o.op) o.op=some (f,args))(hfr:QY st.mem bx aT args)
 (nN:∀ d∈es,d.jK=true) (hc:∀ iC,ji P f args (only bx st.mem) iC fun r' m' _=>∃ q,iC<=q/\r'=.rs q 0 n/\m' q=some (.cells es t)/\∀ i∈bx,m' i=cu st.mem aT i):
 bf.Ok P ops o st ⟨.rs st.nx 0 n,aT++[(st.nx,some (.cells es t))],bx,1⟩:=by
 intro F β w a m env N he hE hm bU hn hN ro k QX K hK;have ie:=vC he;obtain⟨f1,f2,f3⟩:=hfr
 have Bg:∀ i∈bx,m i=st.mem i:=fun i hi=>by
  obtain⟨r,hr,_⟩:=f1 i hi;exact bU i hi (by simp[hr])
 have Nb:∀ i∈bx,∃ p,β i=some p:=fun i hi=>by
  obtain⟨r,hr,_⟩:=f1 i hi;obtain⟨p,hp,_⟩:=hm.row i r ((Bg i hi).trans hr);exact⟨p,hp⟩
 have fH:β st.nx=none:=hn st.nx (bO _) (Nat.lt_succ_self _)
 have hnr:st.nx∉bx:=fun hx=>by
  obtain⟨p,hp⟩:=Nb _ hx;rw[fH] at hp;cases hp
 have Vn:∀ i∈bx,i<N:=fun i hi=>by
  obtain⟨p,hp⟩:=Nb i hi;rcases Nat.lt_or_ge i N with g|g
  .exact g
  .rw[hN i g] at hp;cases hp
 have hc:=hc N
 have hon:only bx st.mem=only bx m:=by
  funext i;unfold only;split
  .rename_i hi;exact(Bg i hi).symm
  .rfl
 rw[hon] at hc;refine z8 (args:=args) (hw F β w a env he hE) hE (by rw[xH ie];exact ha) (by rw[zT (vK ie)];exact h) hc.1 fun vs hR=>?_
 let X:az:=fun i=>if i∈bx then β i else none
 let F2:Nat->Prop:=fun b=>F b\/∃ i p,i∉bx/\β i=some p/\p.bJ=some b
 have b2:∀ {i p},X i=some p->i∈bx/\β i=some p:=fun {i p} hi=>by
  simp only[X] at hi;split at hi
  .rename_i g;exact⟨g,hi⟩
  .cases hi
 have HP:∀ {i},i∈bx->X i=β i:=fun {i} hi=>if_pos hi
 have qA:aC P F2 (only bx m) X w:=by
  refine⟨fun i r hi=>?_,fun i j p q b hp hq e U=>hm.inj i j p q b (b2 hp).2 (b2 hq).2 e U,fun i p b hp e=>hm.lt i p b (b2 hp).2 e,fun i p b hp e C=>?_,hm.fb.next (fun b C=>?_) (fun _ h=>.inl h) fun _ _ _=>rfl⟩
  .unfold only at hi;split at hi
   .rename_i oJ;obtain⟨p,hp,aD⟩:=hm.row i r hi;obtain⟨r',gL,hs⟩:=f1 i oJ;rw[Bg i oJ,gL] at hi;cases hi;exact⟨p,(HP oJ).trans hp,Jw hs aD⟩
   .cases hi
  .rcases C with C|⟨j,q,hj,hq,eq⟩
   .exact hm.nf i p b (b2 hp).2 e C
   .have:=hm.inj i j p q b (b2 hp).2 hq e eq;subst this;exact hj (b2 hp).1
  .rcases C with C|⟨j,q,_,hq,eq⟩
   .exact hm.fb.lt b C
   .exact hm.lt j q b hq eq
 have uN:Rs F2 X w args vs:=⟨hR.1,fun k d v hd hv=>by
  have h0:=hR.2 k d v hd hv;rcases f3 d (cX hd) with ht|⟨i,off,l,hi,rfl⟩
  .refine(ht F β w v h0).lift fun b hb=>⟨fun C=>?_,fun i p hp e=>?_⟩
   .rcases C with C|⟨j,q,_,hq,eq⟩
    .exact hb (.inl C)
    .exact hb (.inr fun jl=>jl j q hq eq)
   .exact hb (.inr fun jl=>jl i p (b2 hp).2 e)
  .exact Tl (HP hi) h0⟩
 refine(hc.2 F2 X w vs qA (fun i hi=>?_) uN).mono ?_
 .simp only[X];split
  .rename_i g;have:=Vn i g;omega
  .rfl
 rintro e w' ⟨v,d,m',aA,β',h1,⟨q,hq,rfl,hmq,HG⟩,h3,h4,h5,O,h7,h8⟩;have Vo:q∉bx:=fun hx=>by have:=Vn q hx;omega
 have Mc:∀ i p b,i∉bx->β i=some p->p.bJ=some b->X.free b:=fun i p b hi hp e j r hj U=>by
  have:=hm.inj i j p r b hp (b2 hj).2 e U;subst this;exact hi (b2 hj).1
 let β3:az:=fun i=>if i=st.nx then β' q else if i∈bx then β' i else β i
 have Nc:β3 st.nx=β' q:=if_pos rfl
 have HQ:∀ {i},i∈bx->β3 i=β' i:=fun {i} hi=>by
  simp only[β3];rw[if_neg (show ¬ i=st.nx from fun e=>hnr (e▸hi)),if_pos hi]
 have HS:∀ {i},i≠st.nx->i∉bx->β3 i=β i:=fun {i} h1 h2=>by
  simp only[β3];rw[if_neg h1,if_neg h2]
 have D5:∀ i p,β3 i=some p->(∃ j,β' j=some p/\((i=st.nx/\j=q)\/(i∈bx/\j=i)))\/(i≠st.nx/\i∉bx/\β i=some p):=fun i p hp=>by
  by_cases M:i=st.nx
  .subst M;exact .inl ⟨q,Nc▸hp,.inl ⟨rfl,rfl⟩⟩
  .by_cases e2:i∈bx
   .exact .inl ⟨i,(HQ e2)▸hp,.inr ⟨e2,rfl⟩⟩
   .exact .inr ⟨M,e2,(HS M e2)▸hp⟩
 have jy:Step β w β3 w':=by
  refine⟨O.size,fun b hb hf=>?_,fun i p hp=>?_,O.out,fun i r hp iB=>?_⟩
  rotate_left 2
  .have M:i≠st.nx:=fun e=>by rw[e,fH] at hp;cases hp
   by_cases e2:i∈bx
   .exact O.lp i r ((HP e2).trans hp) ((HQ e2)▸iB)
   .exact nd (O.ej r (hm.lt i _ r hp rfl) (Mc i _ r e2 hp rfl)).1
  .have D6:X.free b:=fun i p hp e=>hf i p (b2 hp).2 e;obtain⟨g1,g2⟩:=O.ej b hb D6;refine⟨g1,fun i p hp e=>?_⟩;rcases D5 i p hp with⟨j,hj,_⟩|⟨_,_,hj⟩
   .exact g2 j p hj e
   .exact hf i p hj e
  .have M:i≠st.nx:=fun e=>by rw[e,fH] at hp;cases hp
   by_cases e2:i∈bx
   .rw[HQ e2];exact O.gq i p ((HP e2).trans hp)
   .rw[HS M e2];exact .inl hp
 have Sf:∀ i p j r b,i∉bx->β i=some p->p.bJ=some b->β' j=some r->r.bJ=some b->False:=fun i p j r b hi hp e hj U=>
  (O.ej b (hm.lt i p b hp e) (Mc i p b hi hp e)).2 j r hj U
 refine⟨v,h1,hK v w' β3 (Tl Nc h5) ?_ jy fun i hi a8=>?_⟩
 .rw[Jv];show aC P F (up (cu m aT) st.nx (some (.cells es t))) β3 w';refine⟨fun i r hi=>?_,fun i j p r b hp hr e U=>?_,fun i p b hp e=>?_,fun i p b hp e=>?_,hm.fb.next (fun b C=>Nat.lt_of_lt_of_le (hm.fb.lt b C) O.size) (fun _ h=>h) fun t _ C=>(O.ej _ (hm.fb.lt _ C) fun i p hp e=>hm.nf i p _ (b2 hp).2 e C).1⟩
  .by_cases M:i=st.nx
   .subst M;rw[au] at hi;cases hi;obtain⟨p,hp,aD⟩:=h3.row q _ hmq;exact⟨p,Nc.trans hp,Jw ⟨es,t,rfl,nN⟩ aD⟩
   .rw[bE _ _ M] at hi;by_cases e2:i∈bx
    .rw[OW (Bg i e2), <- HG i e2] at hi;obtain⟨p,hp,aD⟩:=h3.row i r hi
     have hs:Fy r:=by
      rw[HG i e2] at hi;rcases Pj hi with⟨x,hx,_,hxr⟩|hi
      .exact(f2 x hx).2 r hxr
      .obtain⟨r',gL,hs⟩:=f1 i e2;rw[gL] at hi;cases hi;exact hs
     exact⟨p,(HQ e2).trans hp,Jw hs aD⟩
    .rw[Qh (i:=i) fun x hx (e:x.1=i)=>e2 (e▸(f2 x hx).1)] at hi;obtain⟨p,hp,aD⟩:=hm.row i r hi;exact⟨p,(HS M e2).trans hp,aD.step jy fun b e=>(O.ej b (hm.lt i p b hp e) (Mc i p b e2 hp e)).1⟩
  .rcases D5 i p hp with⟨i',J,ci⟩|⟨i1,i2,J⟩<;>rcases D5 j r hr with⟨j',gN,cj⟩|⟨j1,j2,gN⟩
   .have:=h3.inj i' j' p r b J gN e U;subst this;rcases ci with⟨rfl,rfl⟩|⟨ci,rfl⟩<;>rcases cj with⟨rfl,c⟩|⟨cj,c⟩
    .rfl
    .subst c;exact absurd cj Vo
    .subst c;exact absurd ci Vo
    .exact c
   .exact(Sf j r i' p b j2 gN U J e).elim
   .exact(Sf i p j' r b i2 J e gN U).elim
   .exact hm.inj i j p r b J gN e U
  .rcases D5 i p hp with⟨i',J,_⟩|⟨_,_,J⟩
   .exact h3.lt i' p b J e
   .exact Nat.lt_of_lt_of_le (hm.lt i p b J e) O.size
  .rcases D5 i p hp with⟨i',J,_⟩|⟨_,_,J⟩
   .exact fun C=>h3.nf i' p b J e (.inl C)
   .exact hm.nf i p b J e
 .have M:i≠st.nx:=by simp only at a8;omega
  have e2:i∉bx:=fun hx=>by
   obtain⟨p,hp⟩:=Nb i hx;rw[hi] at hp;cases hp
  rw[HS M e2];exact hi
end
end Go.Abs
