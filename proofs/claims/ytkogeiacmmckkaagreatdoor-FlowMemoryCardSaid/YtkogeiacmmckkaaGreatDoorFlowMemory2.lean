/- Part 2. -/
import Derived.Test.YtkogeiacmmckkaaGreatDoorFlowMemory1
import Derived.ChangeKeysEq
import Derived.OrdersIn
import Derived.ProofKit
set_option linter.all false
namespace Go.Abs
section
variable{P:Program}{F:Nat->Prop}{m:Mem}{nx:Nat}{β:av}{w w':World}
theorem Rd.AI{b o:Nat}{cs:List D}(h:Rd F β w b o cs):∃ c:List Value,Rl F β w cs c/\∀ (j:Nat) (u:Value),c[j]? =some u->w.cell? ((⟨b,o,none⟩:Addr).add j)=some u:=by
 obtain⟨us,h1,h2⟩:=h;refine⟨(List.range cs.length).map us,⟨oS,fun k d u hk hu=>?_⟩,fun j u hu=>?_⟩
 .have ag:k<cs.length:=(bU.1 hk).1;simp[ag] at hu;subst hu;exact⟨h2 k d hk,(h1 k ag).2⟩
 .have ag:j<cs.length:=by
   have:=(bU.1 hu).1;simpa using this
  simp[ag] at hu;subst hu;rw[Addr.add_lit];exact(h1 j ag).1
theorem OJ(hm:ax P F m β w){sz:Nat}{x:D}{v:Value}{p:Prop}{rd:List Nat}{k:Nat}{news:List D}(hx:R F β w x v)(h:gY m sz x=some (p,rd,k,news))(hp:p)
 (J:∀ i off n cs e,x=.rs i off n->m i=some (.cells cs e)->n=0\/True):
 ∃ a cap c,v=.slice a k cap/\Rl F β w news c/\c.length=k*sz/\(∀ ad,a=some ad->∀ (j:Nat) (u:Value),c[j]? =some u->w.cell? (ad.add j)=some u)/\(a=none->c=[]/\k*sz=0):=by
 cases x with
 |sl es n=>
  simp only[gY,aH,bR] at h;obtain⟨rfl,rfl,rfl,rfl⟩:=h;rcases hx.tf with⟨rfl,rfl,a,cap,rfl⟩|⟨b,o,cap,rfl,_,_,_,_,_,O⟩
  .exact⟨a,cap,[],rfl,⟨oS,oS⟩,oS,oS,oS⟩
  .obtain⟨c,h1,h2⟩:=(O.take (n*sz)).AI;refine⟨_,cap,c,rfl,h1,?_,fun ad C=>by cases C;exact h2,oS⟩;rw[h1.1,List.length_take];exact Nat.min_eq_left hp
 |z=>
  simp only[gY,aH,bR] at h;obtain⟨rfl,rfl,rfl,rfl⟩:=h;obtain⟨a,rfl⟩:=hx.Ac;exact⟨a,0,[],rfl,⟨oS,oS⟩,oS,oS,oS⟩
 |rs i off n=>
  simp only[gY] at h;cases hi:m i with
  |none=>simp[hi] at h
  |some r=>
  cases r with
  |map es=>simp[hi] at h
  |raw es=>simp[hi] at h
  |bs u x T=>simp[hi] at h
  |lp k=>simp[hi] at h
  |eZ f r=>simp[hi] at h
  |cells cs e=>
  simp only[hi,aH,bR] at h;obtain⟨rfl,rfl,rfl,rfl⟩:=h;rcases hx.vi hm hi with⟨rfl,rfl,rfl,jJ,a,rfl⟩|⟨b,o,room,hβ,af,U⟩
  .exact⟨a,0,[],rfl,⟨oS,oS⟩,oS,oS,oS⟩
  .rcases U with⟨rfl,a,rfl⟩|⟨cap,rfl,X,g2,g3,g4⟩
   .exact⟨a,0,[],rfl,⟨oS,oS⟩,oS,oS,oS⟩
   .obtain⟨c,h1,h2⟩:=((af.rd.1.drop off).take (n*sz)).AI;refine⟨_,cap,c,rfl,h1,?_,fun ad C=>by cases C;exact h2,oS⟩;rw[h1.1];simp;omega
 |_=>simp[gY] at h
theorem Xe(t ty e:TypeId)(i:TypeInfo)(ht:P.underlying t=some (.slice e))(hi:P.info? e=some i)(a0 a:Option Addr)(n cap c:Nat)(C:n<=cap):
 (Builtin.append_ #[t,t] ty #[.slice a0 n cap,.slice a 0 c]).run P w=.ok (.slice a0 n cap) w:=by
 cases a0<;>cases a<;>simp[Builtin.append_,run_underlying ht,sizeOf,typeInfo,hi,Builtin.lenOf,C,Builtin.firstCells,loadCells,loadCellsFrom,storeCells]
theorem Xg(t ty e:TypeId)(i:TypeInfo)(ht:P.underlying t=some (.slice e))(hi:P.info? e=some i)(g o n cap:Nat)(cur:Array Value)(hg:w.heap[g]? =some (.cells cur e (0,0)))
 (a:Addr) (k c:Nat) (news:List Value) (hl:news.length=k*i.size) (U:∀ j u,news[j]? =some u->w.cell? (a.add j)=some u) (h1:∀ u∈news,u.oneCell'=true) (O:n+k<=cap) (J:o+n*i.size+news.length<=cur.size):
 (Builtin.append_ #[t,t] ty #[.slice (some ⟨g,o,none⟩) n cap,.slice (some a) k c]).run P w=
  .ok (.slice (some ⟨g,o,none⟩) (n+k) cap) (w.setRow g (cur.toList.take (o+n*i.size)++news++cur.toList.drop (o+n*i.size+news.length)).toArray):=by
 have hf:=run_firstCells_some (P:=P) w i.size k a k c news hl U;have C:=run_storeCells_at P g (o+n*i.size) e news 0 cur w hg (by simpa using J) h1;simp only[Nat.add_zero] at C;simp[Builtin.append_,run_underlying ht,sizeOf,typeInfo,hi,Builtin.lenOf,O,hf,Addr.add_lit,C]
theorem Xh(t ty e:TypeId)(i:TypeInfo)(z:Value)(ht:P.underlying t=some (.slice e))(hi:P.info? e=some i)(hz:i.zero=some z)(a0:Option Addr)(n cap:Nat)(fX:List Value)(fJ:fX.length=n*i.size)
 (holds:∀ ad,a0=some ad->∀ j v,fX[j]? =some v->w.cell? (ad.add j)=some v) (h0:a0=none->n=0/\cap=0) (O:n<=cap)
 (a:Addr) (k c:Nat) (news:List Value) (hl:news.length=k*i.size) (C:∀ j v,news[j]? =some v->w.cell? (a.add j)=some v) (hg:cap<n+k) (J:n+k<=maxLen) (hb:(n+k)*i.bytes<=140737488355328):
 (Builtin.append_ #[t,t] ty #[.slice a0 n cap,.slice (some a) k c]).run P w=
  .ok (.slice (some ⟨w.heap.size,0,none⟩) (n+k) (grownCap w (n+k) cap e)) (w.drew.alloc (.cells (fX.toArray++news.toArray++Builtin.zeroCells z.cells (grownCap w (n+k) cap e - (n+k))) e)):=by
 simp only[maxLen] at J;cases a0 with
 |some b=>exact run_append_grow w t ty e i z ht hi hz b n cap fX fJ (holds b rfl) a k c news hl C hg oG (growslice_fits oG hb)
 |none=>
  obtain⟨rfl,rfl⟩:=h0 rfl;have:fX=[]:=List.eq_nil_of_length_eq_zero (by simpa using fJ);subst this;have:=run_append_nil (P:=P) w t ty e i z ht hi hz a k c news hl C oG oG (by simp at hb;omega);simpa using this
theorem Xo(z:Array Value)(n:Nat):(Builtin.zeroCells z n).toList.length=n*z.size:=by simp[Builtin.zeroCells]
theorem Rl.append{C J:List D}{O U:List Value}(h1:Rl F β w C O)(h2:Rl F β w J U):Rl F β w (C++J) (O++U):=by
 refine⟨by simp[h1.1,h2.1],fun k d u hk hu=>?_⟩;by_cases ag:k<C.length
 .rw[List.getElem?_append_left ag] at hk;rw[List.getElem?_append_left (by rw[h1.1];exact ag)] at hu;exact h1.2 k d u hk hu
 .rw[List.getElem?_append_right oG] at hk;rw[List.getElem?_append_right (by rw[h1.1];omega),h1.1] at hu;exact h2.2 _ d u hk hu
theorem Rl.step{cs:List D}{c:List Value}{β':av}(h:Rl F β w cs c)(hs:Step β w β' w'):Rl F β' w' cs c:=⟨h.1,fun k d u hk hu=>⟨(h.2 k d u hk hu).1.step hs,(h.2 k d u hk hu).2⟩⟩
theorem Zf(hm:ax P F m β w)(hn:β nx=none){e:TypeId}{z:Value}(U:z.cells.size=P.cellsOf e){cs:List D}{c:List Value}(hc:Rl F β w cs c){n N:Nat}(hlen:cs.length=n*P.cellsOf e)(O:n<=N)(cW:N<=maxLen):
 ∃ β',ax P F (up m nx (some (.cells cs e))) β' (w.alloc (.cells (c.toArray++Builtin.zeroCells z.cells (N - n)) e))/\Step β w β' (w.alloc (.cells (c.toArray++Builtin.zeroCells z.cells (N - n)) e))/\
  R F β' (w.alloc (.cells (c.toArray++Builtin.zeroCells z.cells (N - n)) e)) (.rs nx 0 n) (.slice (some ⟨w.heap.size,0,none⟩) n N)/\∀ i,i≠nx->β' i=β i:=by
 obtain⟨h2,C⟩:=BU hm hn (cs:=cs) (c:=c) (e:=e) hc.1 hc.2 (Builtin.zeroCells z.cells (N - n)).toList
 have J:(c++(Builtin.zeroCells z.cells (N - n)).toList).toArray=c.toArray++Builtin.zeroCells z.cells (N - n):=by
  apply Array.ext';simp
 rw[J] at h2 C;have e2:n*P.cellsOf e+(N - n)*P.cellsOf e=N*P.cellsOf e:=by rw[<- Nat.add_mul];congr 1;omega
 have e3:=Xo z.cells (N - n);rw[U] at e3;refine⟨_,h2,C,?_,fun i hi=>aA _ _ hi⟩;exact .rs nx 0 n N w.heap.size 0 _ _ _ (ai _ _ _) O cW oG oG
theorem Q5(hm:ax P F m β w)(hn:β nx=none)(e:TypeId):ax P F (up m nx (some (.cells [] e))) (up β nx (some .nil)) w/\Step β w (up β nx (some .nil)) w:=by
 have hs:Step β w (up β nx (some .nil)) w:=by
  refine⟨a6 _,fun b hb hf=>⟨rfl,fun i q hq=>?_⟩,fun i q hq=>.inl ?_,⟨rfl,rfl⟩,fun _ _ _ _=>mA rfl⟩
  .by_cases hi:i=nx
   .subst hi;rw[ai] at hq;cases hq;simp[Pl.bA]
   .rw[aA _ _ hi] at hq;exact hf i q hq
  .rw[aA _ _ (fun e=>by rw[e,hn] at hq;cases hq)];exact hq
 have sub:∀ i q b,up β nx (some .nil) i=some q->q.bA=some b->β i=some q:=fun i q b hq e=>by
  by_cases hi:i=nx
  .subst hi;rw[ai] at hq;cases hq;simp[Pl.bA] at e
  .rw[aA _ _ hi] at hq;exact hq
 refine⟨⟨fun i r hi=>?_,fun i j p q b hp hq e J=>hm.inj i j p q b (sub i p b hp e) (sub j q b hq J) e J,fun i p b hp e=>hm.lt i p b (sub i p b hp e) e,fun i p b hp e=>hm.nf i p b (sub i p b hp e) e,hm.fb⟩,hs⟩;by_cases C:i=nx
 .subst C;rw[ai] at hi;cases hi;exact⟨.nil,ai _ _ _,.nil e⟩
 .rw[aA _ _ C] at hi;obtain⟨p,hp,af⟩:=hm.row i r hi;exact⟨p,by rw[aA _ _ C];exact hp,af.step hs fun _ _=>rfl⟩
structure Src(P:Program)(w:World)(t u ty E:TypeId)(vx:Value)(k:Nat)(c:List Value):Prop where
 len:c.length=k*P.cellsOf E
 zero:k=0->∀ a0 n cap,n<=cap->(Builtin.append_ #[t,u] ty #[.slice a0 n cap,vx]).run P w=.ok (.slice a0 n cap) w
 new:0<k->∀ a0 n cap (fX:List Value) z,(P.info? E).bind (·.zero)=some z->fX.length=n*P.cellsOf E->(∀ ad,a0=some ad->∀ j v,fX[j]? =some v->w.cell? (ad.add j)=some v)->(a0=none->n=0/\cap=0)->n<=cap->cap<n+k->n+k<=maxLen->(n+k)*P.bytesOf E<=140737488355328->
  (Builtin.append_ #[t,u] ty #[.slice a0 n cap,vx]).run P w=.ok (.slice (some ⟨w.heap.size,0,none⟩) (n+k) (grownCap w (n+k) cap E)) (w.drew.alloc (.cells (fX.toArray++c.toArray++Builtin.zeroCells z.cells (grownCap w (n+k) cap E - (n+k))) E))
 fit:0<k->∀ g o n cap (cur:Array Value),w.heap[g]? =some (.cells cur E (0,0))->n+k<=cap->o+n*P.cellsOf E+c.length<=cur.size->(∀ v∈c,v.oneCell'=true)->
  (Builtin.append_ #[t,u] ty #[.slice (some ⟨g,o,none⟩) n cap,vx]).run P w=.ok (.slice (some ⟨g,o,none⟩) (n+k) cap) (w.setRow g (cur.toList.take (o+n*P.cellsOf E)++c++cur.toList.drop (o+n*P.cellsOf E+c.length)).toArray)
theorem ID(hm:ax P F m β w){t ty:TypeId}{x:D}{vx:Value}{p:Prop}{rd:List Nat}{k:Nat}{news:List D}(hx:R F β w x vx)(h:gY m (P.cellsOf (aq P t)) x=some (p,rd,k,news))(hp:p)(ht:aW P t=true)(jI:0<P.cellsOf (aq P t)):
 ∃ c,Rl F β w news c/\Src P w t t ty (aq P t) vx k c:=by
 obtain⟨hu,cn⟩:=ia ht;obtain⟨i,d,z,hi,hd,hz,_,jf,_,br,hb,_⟩:=qd cn;obtain⟨a,c',c,rfl,cg,O,U,MW⟩:=OJ hm hx h hp (fun _ _ _ _ _ _ _=>.inr trivial)
 have X:0<k->∃ ad,a=some ad:=fun hk=>by
  cases a with
  |none=>have:=(MW rfl).2;have:=Nat.mul_pos hk jI;omega
  |some ad=>exact⟨ad,rfl⟩
 refine⟨c,cg,O,fun hk a0 n cap C=>?_,fun hk a0 n cap fX z' J pU tg h0 tT hg cW jQ=>?_,fun hk g o n cap cur LJ rO Cz lB=>?_⟩
 .subst hk;exact Xe (P:=P) (w:=w) t ty _ i hu hi a0 a n cap c' C
 .obtain⟨ad,rfl⟩:=X hk;simp only[hi,Option.bind_some] at J;rw[hz] at J;cases J;exact Xh (P:=P) (w:=w) t ty _ i z hu hi hz a0 n cap fX (by rw[br];exact pU) tg h0 tT ad k c' c (by rw[br];exact O) (U ad rfl) hg cW (by rw[hb];exact jQ)
 .obtain⟨ad,rfl⟩:=X hk;have cK:=Xg (P:=P) (w:=w) t ty _ i hu hi g o n cap cur LJ ad k c' c (by rw[br];exact O) (U ad rfl) lB rO (by rw[br];omega);rw[br] at cK;exact cK
theorem Bt(hm:ax P F m β w)(hn:β nx=none){t u ty E:TypeId}{vs vx:Value}{k:Nat}{news:List D}{c:List Value}(cg:Rl F β w news c)(X:Src P w t u ty E vx k c)(cn:aB P E=true)(jI:0<P.cellsOf E){pre:Prop}{rd:List Nat}:
 (R F β w .z vs->k<=maxLen->k*P.bytesOf E<=140737488355328->aK P F m nx β w { pre:=pre,val:=.rs nx 0 k,aL:=[(nx,some (.cells news E))],rd:=rd,new:=1 } (do Pure.pure (Next.value (<- Builtin.append_ #[t,u] ty #[vs,vx]))))/\
 (∀ es n,R F β w (.sc es n) vs->0<k->n*P.cellsOf E=es.length->n+k<=maxLen->(n+k)*P.bytesOf E<=140737488355328->
  aK P F m nx β w { pre:=pre,val:=.rs nx 0 (n+k),aL:=[(nx,some (.cells (es++news) E))],rd:=rd,new:=1 } (do Pure.pure (Next.value (<- Builtin.append_ #[t,u] ty #[vs,vx]))))/\
 ∀ i off n cs,R F β w (.rs i off n) vs->m i=some (.cells cs E)->off+n*P.cellsOf E=cs.length->n+k<=maxLen->(n+k)*P.bytesOf E<=140737488355328->
  aK P F m nx β w { pre:=pre,val:=.rs nx 0 (n+k),aL:=[(i,none),(nx,some (.cells (cs.drop off++news) E))],rd:=rd,new:=1 } (do Pure.pure (Next.value (<- Builtin.append_ #[t,u] ty #[vs,vx]))):=by
 obtain⟨ii,d,z,hi,_,hz,_,jf,_,amp,_⟩:=qd cn;have qR:=X.len;have J7:k=0->news=[]:=fun hk=>List.eq_nil_of_length_eq_zero (by rw[<- cg.1,qR,hk];simp)
 have grow:∀ (β0:av) (m0:Mem),ax P F m0 β0 w->Step β w β0 w->β0 nx=none->(∀ i,β i=none->β0 i=none)->∀ (a0:Option Addr) (n cap:Nat) (GJ:List D) (fX:List Value),Rl F β0 w GJ fX->fX.length=n*P.cellsOf E->
  (∀ ad,a0=some ad->∀ j v,fX[j]? =some v->w.cell? (ad.add j)=some v)->(a0=none->n=0/\cap=0)->n<=cap->n+k<=maxLen->(n+k)*P.bytesOf E<=140737488355328->0<k->cap<n+k->
  ∃ v w' β',(Builtin.append_ #[t,u] ty #[.slice a0 n cap,vx]).run P w=.ok v w'/\R F β' w' (.rs nx 0 (n+k)) v/\ax P F (up m0 nx (some (.cells (GJ++news) E))) β' w'/\Step β w β' w'/\∀ i,β i=none->(i<nx\/nx+1<=i)->β' i=none:=by
  intro β0 m0 gv mg nU iC a0 n cap GJ fX hold pU tg h0 tT cW jQ hk hg;have O:=X.new hk a0 n cap fX z (by simp[hi,hz]) pU tg h0 tT hg cW jQ;have wy:Rl F β0 w.drew (GJ++news) (fX++c):=(hold.append (cg.step mg)).step Pb;obtain⟨β',C,J,g3,g4⟩:=Zf (P:=P) (nx:=nx) (e:=E) (z:=z) gv.drew nU jf wy (n:=n+k) (N:=grownCap w (n+k) cap E) (by rw[<- wy.1,List.length_append,pU,qR,Nat.add_mul]) (grownCap_ge w _ _ _) (grownCap_le_maxLen w _ _ _ cW);have e1:(fX++c).toArray=fX.toArray++c.toArray:=by simp
  rw[e1] at C J g3;refine⟨_,_,β',O,g3,C,(mg.trans Pb).trans J,fun j hj iF=>?_⟩;rw[g4 j oG];exact iC j hj
 refine⟨fun hs cW jQ=>?_,fun es n hs hk hlen cW jQ=>?_,fun i off n cs hs bL xO cW jQ=>?_⟩
 .obtain⟨a0,rfl⟩:=hs.Ac;rcases Nat.eq_zero_or_pos k with hk|hk
  .obtain⟨C,J⟩:=Q5 hm hn E;have:=J7 hk;subst hk this;exact⟨.value (.slice a0 0 0),.slice a0 0 0,w,up β nx (some .nil),by simp[X.zero rfl a0 0 0 (a6 _)],.inl rfl,.gu nx a0 (ai _ _ _),C,J,uH⟩
  .obtain⟨v,w',β',O,C,J,g3,g4⟩:=grow β m hm (Step.refl β w) hn (fun _ h=>h) a0 0 0 [] [] ⟨rfl,oS⟩ oS oS (fun _=>⟨rfl,rfl⟩) (a6 _) oG (by simpa using jQ) hk oG;refine⟨.value v,v,w',β',by simp[O],.inl rfl,?_,?_,g3,g4⟩
   .simpa using C
   .simpa[bT] using J
 .cases hs with
  |sc _ _ a h=>
  rcases h.tf with⟨rfl,rfl,a',CA,hv⟩|⟨b,o,CA,hv,_,_,_,_,_,bP⟩
  .cases hv;obtain⟨v,w',β',O,C,J,g3,g4⟩:=grow β m hm (Step.refl β w) hn (fun _ h=>h) a 0 0 [] [] ⟨rfl,oS⟩ oS oS (fun _=>⟨rfl,rfl⟩) (a6 _) cW jQ hk oG;exact⟨.value v,v,w',β',by simp[O],.inl rfl,C,by simpa[bT] using J,g3,g4⟩
  .cases hv;obtain⟨fX,Dn,MY⟩:=bP.AI;obtain⟨v,w',β',O,C,J,g3,g4⟩:=grow β m hm (Step.refl β w) hn (fun _ h=>h) (some ⟨b,o,none⟩) n n es fX Dn (by rw[Dn.1];exact hlen.symm) (fun ad qS=>by cases qS;exact MY) oS (a6 _) cW jQ hk oG;exact⟨.value v,v,w',β',by simp[O],.inl rfl,C,by simpa[bT] using J,g3,g4⟩
 .have cE:i≠nx:=fun e=>by
   obtain⟨p',gS,_⟩:=hm.row i _ bL;rw[e,hn] at gS;cases gS
  have MZ:=hm.dead i;have Ht:=zj β w i;have fA:up β i (some .dead) nx=none:=by rw[aA _ _ (Ne.symm cE)];exact hn
  have iC:∀ j,β j=none->up β i (some .dead) j=none:=fun j hj=>by
   by_cases cr:j=i
   .subst cr;obtain⟨p',gS,_⟩:=hm.row j _ bL;rw[hj] at gS;cases gS
   .rw[aA _ _ cr];exact hj
  have small:∀ a0:Option Addr,n=0->cs.length=off->vs=.slice a0 0 0->aK P F m nx β w { pre:=pre,val:=.rs nx 0 (n+k),aL:=[(i,none),(nx,some (.cells (cs.drop off++news) E))],rd:=rd,new:=1 } (do Pure.pure (Next.value (<- Builtin.append_ #[t,u] ty #[vs,vx]))):=by
   rintro a0 rfl mU rfl;have S6:cs.drop off=[]:=by simp;omega
   rcases Nat.eq_zero_or_pos k with rfl|hk
   .have vu:=J7 rfl;subst vu;obtain⟨C,J⟩:=Q5 MZ fA E;refine⟨.value (.slice a0 0 0),.slice a0 0 0,w,_,by simp[X.zero rfl a0 0 0 (a6 _)],.inl rfl,.gu nx a0 (ai _ _ _),?_,Ht.trans J,fun j hj iF=>?_⟩
    .simp only[bT,S6,List.append_nil];exact C
    .rw[aA _ _ (by simp only at iF;omega)];exact iC j hj
   .obtain⟨v,w',β',O,C,J,g3,g4⟩:=grow _ _ MZ Ht fA iC a0 0 0 [] [] ⟨rfl,oS⟩ oS oS (fun _=>⟨rfl,rfl⟩) (a6 _) oG jQ hk oG;refine⟨.value v,v,w',β',by simp[O],.inl rfl,?_,?_,g3,g4⟩
    .simpa using C
    .simp only[bT,S6];exact J
  rcases hs.vi hm bL with⟨rfl,rfl,rfl,jJ,a0,rfl⟩|⟨b,o,room,hβ,af,jm⟩
  .exact small a0 rfl rfl rfl
  .rcases jm with⟨rfl,a0,rfl⟩|⟨cap,rfl,C,J,g3,g4⟩
   .exact small a0 rfl oG rfl
   .obtain⟨fX,Dn,MY⟩:=(af.rd.1.drop off).AI;have pU:fX.length=n*P.cellsOf E:=by rw[Dn.1];simp;omega
    rcases Nat.lt_or_ge cap (n+k) with hg|hg
    .have hk:0<k:=by omega
     obtain⟨v,w',β',O,k1,k2,k3,k4⟩:=grow _ _ MZ Ht fA iC (some ⟨b,o+off,none⟩) n cap (cs.drop off) fX (Dn.step Ht) pU (fun ad qS=>by cases qS;exact MY) oS C cW jQ hk hg;exact⟨.value v,v,w',β',by simp[O],.inl rfl,k1,k2,k3,k4⟩
    ·
      cases af with
      |cells _ _ _ _ _ _ U A3 rO hle br hh=>
      have al6:(up β i (some .dead)) nx=none:=fA;rcases Nat.eq_zero_or_pos k with rfl|hk
      .have vu:=J7 rfl;subst vu
       obtain⟨q1,q2⟩:=hm.move (w':=w) (nx:=nx) (p':=.cells b (o+off) (cs.drop off).length (room - off) (P.cellsOf E)) hβ rfl rfl hn rfl (fun _ _=>rfl) (.cells (cs.drop off) E) (fun bF=>by
        refine .cells _ E b (o+off) (room - off) _ U A3 oG oP rfl fun j d hj=>?_;rw[List.getElem?_drop] at hj;obtain⟨u,oZ,o0,o6⟩:=hh (off+j) d hj
        exact⟨u,by rw[Nat.add_assoc];exact oZ,o0.step bF,o6⟩)
       refine⟨.value (.slice (some ⟨b,o+off,none⟩) n cap),_,w,_,by simp[X.zero rfl (some ⟨b,o+off,none⟩) n cap C],.inl rfl,?_,?_,q2,fun j hj iF=>?_⟩
       .have:=R.rs (F:=F) (β:=up (up β i (some .dead)) nx (some (.cells b (o+off) (cs.drop off).length (room - off) (P.cellsOf E)))) (w:=w) nx 0 n cap b (o+off) (cs.drop off).length (room - off) (P.cellsOf E) (ai _ _ _) C J oP oG;simpa using this
       .simp only[bT,List.append_nil];exact q1
       .rw[aA _ _ (by simp only at iF;omega)];exact iC j hj
      .have hmul:n*P.cellsOf E+k*P.cellsOf E<=cap*P.cellsOf E:=by rw[<- Nat.add_mul];exact Nat.mul_le_mul_right _ hg
       have lB:∀ u∈c,u.oneCell'=true:=fun u hu=>by
        obtain⟨j,hj⟩:=fI hu;have c8:j<news.length:=by rw[<- cg.1];exact(bU.1 hj).1
        exact(cg.2 j news[j] u (by simp[c8]) hj).2
       have O:=X.fit hk b (o+off) n cap U A3 hg oG lB;have gf:news.length=k*P.cellsOf E:=by rw[<- cg.1];exact qR
       have oD:=setRow_heap w b U (U.toList.take (o+off+n*P.cellsOf E)++c++U.toList.drop (o+off+n*P.cellsOf E+c.length)).toArray E (0,0) A3
       have Ge:(U.toList.take (o+off+n*P.cellsOf E)++c++U.toList.drop (o+off+n*P.cellsOf E+c.length)).toArray.size=U.size:=by
        simp only[List.size_toArray,List.length_append,List.length_take,List.length_drop,Array.length_toList];omega
       obtain⟨q1,q2⟩:=hm.move (w':=w.setRow b (U.toList.take (o+off+n*P.cellsOf E)++c++U.toList.drop (o+off+n*P.cellsOf E+c.length)).toArray) (nx:=nx) (p':=.cells b (o+off) (cs.drop off++news).length (room - off) (P.cellsOf E)) hβ rfl rfl hn oS (fun j hj=>setRow_other w b j _ hj) (.cells (cs.drop off++news) E) (fun bF=>by
        refine .cells _ E b (o+off) (room - off) _ _ oD (by rw[Ge];omega) oP rfl fun j d hj=>?_;have hv:=D4 U.toList (o+off+n*P.cellsOf E) c oP (o+off+j);simp only[List.getElem?_toArray];by_cases ag:j<(cs.drop off).length
        .rw[List.getElem?_append_left ag,List.getElem?_drop] at hj;obtain⟨u,oZ,o0,o6⟩:=hh (off+j) d hj;rw[if_pos (by simp at ag;omega)] at hv;exact⟨u,by rw[hv,Nat.add_assoc];simpa using oZ,o0.step bF,o6⟩
        .rw[List.getElem?_append_right oG] at hj;have c8:=(bU.1 hj).1;simp only[List.length_drop] at hj c8 ag;rw[if_neg oG,if_pos oG,show o+off+j - (o+off+n*P.cellsOf E)=j - (cs.length - off) from by omega] at hv;have CB:j - (cs.length - off)<c.length:=by omega
         obtain⟨r1,r2⟩:=cg.2 _ d c[j - (cs.length - off)] hj (by simp[CB])
         exact⟨_,by rw[hv];simp[CB],r1.step bF,r2⟩)
       refine⟨.value (.slice (some ⟨b,o+off,none⟩) (n+k) cap),_,_,_,by simp[O],.inl rfl,?_,q1,q2,fun j hj iF=>?_⟩
       .refine .rs nx 0 (n+k) cap b (o+off) _ (room - off) _ (ai _ _ _) hg J ?_ oG;simp only[List.length_append,List.length_drop];omega
       .rw[aA _ _ (by simp only at iF;omega)];exact iC j hj
theorem Yk(hm:ax P F m β w)(hn:β nx=none){t ty:TypeId}{s x:D}{vs vx:Value}{e:cR}(hs:R F β w s vs)(hx:R F β w x vx)(h:py P m nx t s x=some e)(hp:e.pre):
 aK P F m nx β w e (do Pure.pure (Next.value (<- Builtin.append_ #[t,t] ty #[vs,vx]))):=by
 unfold py at h;simp only at h;cases O:gY m (P.cellsOf (aq P t)) x with
 |none=>simp[O] at h
 |some q=>
 obtain⟨p,rd,k,news⟩:=q;simp only[O] at h;cases s with
 |z=>
  simp only[aH] at h;subst h;obtain⟨ht,U,J,cW,jQ⟩:=hp;obtain⟨c,cg,X⟩:=ID (ty:=ty) hm hx O U ht J;exact(Bt hm hn cg X (ia ht).2 J).1 hs cW jQ
 |rs i off n=>
  simp only at h;cases C:m i with
  |none=>simp[C] at h
  |some r=>
  cases r with
  |map es=>simp[C] at h
  |raw es=>simp[C] at h
  |bs u x T=>simp[C] at h
  |lp k=>simp[C] at h
  |eZ f r=>simp[C] at h
  |cells cs e'=>
  simp only[C,aH] at h;subst h;obtain⟨ht,hee,U,J,xO,cW,jQ,bP⟩:=hp;subst hee;obtain⟨c,cg,X⟩:=ID (ty:=ty) hm hx O U ht J;exact(Bt hm hn cg X (ia ht).2 J).2.2 i off n cs hs C xO cW jQ
 |_=>simp at h
end
theorem Jv{a b:Value}(h:pN a b=true):a=b:=by
 unfold pN at h;split at h
 .simp at h;rw[h.1,h.2]
 .simp at h;rw[h]
 .rename_i a b;simp only[beq_iff_eq] at h;congr 1;cases a;cases b;simp only[ByteArray.mk.injEq];exact Array.ext' (by simpa using h)
 .cases h
theorem Jr:∀ {a b:List Value},gM a b=true->a=b
 |[],[],_=>rfl
 |a::aS,b::bs,h=>by
  simp only[gM,aw] at h;rw[Jv h.1,Jr h.2]
 |[],_::_,h=>by simp[gM] at h
 |_::_,[],h=>by simp[gM] at h
theorem RQ{a b:Value}(h:su a b=true):a=b:=by
 unfold su at h;split at h
 .rw[Array.ext' (Jr h)]
 .exact Jv h
def gL:Value->Bool
 | .int _ _ | .bool _ | .string _=>true
 |_=>false
theorem YZ{a:Value}(h:gL a=true):pN a a=true:=by
 unfold gL at h;split at h<;>simp_all[pN]
theorem IB:∀ {a:List Value},a.all gL=true->gM a a=true
 |[],_=>rfl
 |a::aS,h=>by
  simp only[List.all_cons,aw] at h;simp[gM,YZ h.1,IB h.2]
section
variable{P:Program}
structure FG(P:Program)(t kt et:TypeId):Prop where
 sv:P.underlying t=some (.map kt et)
 elem:aB P et=true
 zero:tU P et=true
 refl:∀ v,df P kt v=true->su v v=true
 one:∀ v,df P kt v=true->v.oneCell'=true\/∃ vs,v=.agg vs
 check:∀ (w:World) (em:Bool) (v:Value),df P kt v=true->(Instr.checkKey em 10000 kt v).run P w=.ok () w
 find:∀ (w:World) (x:Value),df P kt x=true->∀ es:List MapEntry,(∀ e∈es,df P kt e.key=true)->
  ((Instr.findKey kt x es).run P w=.ok none w/\∀ e∈es,e.key≠x)\/∃ j e,(Instr.findKey kt x es).run P w=.ok (some (j,e.val)) w/\es[j]? =some e/\e.key=x
 stays:∀ (w:World) (v:Value),df P kt v=true->(Instr.keyThatStays v v).run P w=.ok v w
theorem H7{t kt et:TypeId}{d:TypeDesc}(hu:P.underlying t=some (.map kt et))(he:aB P et=true)(hz:tU P et=true)(hd:P.underlying kt=some d)(hk:∀ v,df P kt v=true↔MapKept.IsKey d v):FG P t kt et where
 sv:=hu
 elem:=he
 zero:=hz
 refl:=fun v h=>by
  have:=(hk v).1 h;cases d<;>cases v<;>simp_all[MapKept.IsKey,su,pN]
 one:=fun v h=>by
  have:=(hk v).1 h;left;cases d<;>cases v<;>simp_all[MapKept.IsKey,Value.oneCell']
 check:=fun w em v h=>MapKept.run_checkKey hd ((hk v).1 h) em 9999
 find:=fun w x hx es J=>by
  rcases MapKept.findNow_spec ((hk x).1 hx) es 0 (fun e he=>(hk _).1 (J e he)) with⟨h1,h2⟩|⟨j,e,h1,h2,C⟩
  .exact .inl ⟨MapKept.run_findKey hd h1,h2⟩
  .exact .inr ⟨j,e,by have:=MapKept.run_findKey (P:=P) (w:=w) hd h1;simpa using this,h2,C⟩
 stays:=fun w v h=>MapKept.run_keyThatStays ((hk v).1 h)
theorem Oj{t kt et:TypeId}(hu:P.underlying t=some (.map kt et))(he:aB P et=true)(hz:tU P et=true)(J:(match P.underlying kt with|some (.array _ _)|some (.struct _)=>true|_=>false)=true)
 (h1:P.keyTypeAt 9 kt=true) (h2:P.tiled 9 kt=true):FG P t kt et:=by
 have C:=deep_law (P:=P) (m:=9) oG h1 h2 J
 have hk:∀ v,df P kt v=true↔∃ l,keyOf P kt v=some l:=fun v=>by
  unfold df;split at J
  .simp_all[Option.isSome_iff_exists]
  .simp_all[Option.isSome_iff_exists]
  .cases J
 refine⟨hu,he,hz,fun v h=>?_,fun v h=>?_,fun w em v h=>?_,fun w x hx es U=>?_,fun w v h=>?_⟩
 .obtain⟨l,hl⟩:=(hk v).1 h;obtain⟨xs,L,rfl,O,_⟩:=keyOf_top J hl;have:=cells_of_lits 9 kt h2 _ _ _ O;simp only[su];rw[this];refine IB (cv.2 fun u hu=>?_);obtain⟨l,_,rfl⟩:=List.mem_map.1 hu;cases l<;>rfl
 .obtain⟨l,hl⟩:=(hk v).1 h;obtain⟨xs,L,rfl,_⟩:=keyOf_top J hl;exact .inr ⟨xs,rfl⟩
 .obtain⟨l,hl⟩:=(hk v).1 h;exact C.check w em hl
 .obtain⟨l,hl⟩:=(hk x).1 hx;exact C.find w hl es fun e he=>(hk _).1 (U e he)
 .obtain⟨l,hl⟩:=(hk v).1 h;exact C.stays w hl
theorem zn{t:TypeId}(h:iX P t=true):FG P t (fT P t) (qE P t):=by
 unfold iX at h;split at h
 .rename_i kt et hu;have C:fT P t=kt:=by simp[fT,hu]
  have e2:qE P t=et:=by simp[qE,hu]
  rw[C,e2];simp only[aw] at h;obtain⟨⟨h1,hz⟩,h2⟩:=h;split at h2
  .rename_i hd;exact H7 hu h1 hz hd fun v=>by unfold df;rw[hd];cases v<;>simp[MapKept.IsKey]
  .rename_i hd;exact H7 hu h1 hz hd fun v=>by unfold df;rw[hd];cases v<;>simp[MapKept.IsKey]
  .rename_i hd;exact H7 hu h1 hz hd fun v=>by unfold df;rw[hd];cases v<;>simp[MapKept.IsKey]
  .rename_i hd;simp only[aw] at h2;exact Oj hu h1 hz (by rw[hd]) h2.1 h2.2
  .rename_i hd;simp only[aw] at h2;exact Oj hu h1 hz (by rw[hd]) h2.1 h2.2
  .cases h2
 .cases h
theorem OG{k:Value}:∀ {es:List (Value×D)},eu k es=none->∀ e∈es,su e.1 k=false
 |[],_,e,he=>by cases he
 |(k',d)::es,h,e,he=>by
  simp only[eu] at h;split at h
  .cases h
  .rename_i C;simp only[Option.map_eq_none_iff] at h;rcases List.mem_cons.1 he with rfl|he
   .simpa using C
   .exact OG h e he
theorem Io{k:Value}:∀ {es:List (Value×D)} {j:Nat} {d:D},eu k es=some (j,d)->∃ k',es[j]? =some (k',d)/\su k' k=true
 |[],j,d,h=>by simp[eu] at h
 |(k',d')::es,j,d,h=>by
  simp only[eu] at h;split at h
  .rename_i hv;simp only[aH,bR] at h;obtain⟨rfl,rfl⟩:=h;exact⟨k',rfl,hv⟩
  .simp only[cN] at h;obtain⟨⟨X,J⟩,h1,h2⟩:=h;simp only[bR] at h2;obtain⟨rfl,rfl⟩:=h2;obtain⟨C,O,U⟩:=Io h1;exact⟨C,by simpa using O,U⟩
theorem BD{t kt et:TypeId}(L:FG P t kt et)(w:World){key:Value}(hk:df P kt key=true){es:List (Value×D)}(kp:es.all (fun e=>df P kt e.1)=true){ms:List MapEntry}(hl:ms.length=es.length)
 (X:∀ (k:Nat) (x:Value×D) (m:MapEntry),es[k]? =some x->ms[k]? =some m->m.key=x.1) (dE:(es.map (·.1)).Nodup):
 (eu key es=none/\(Instr.findKey kt key ms).run P w=.ok none w/\(∀ e∈es,e.1≠key))\/
 ∃ j d e,eu key es=some (j,d)/\(Instr.findKey kt key ms).run P w=.ok (some (j,e.val)) w/\ms[j]? =some e/\e.key=key/\es[j]? =some (key,d):=by
 have hms:∀ e∈ms,df P kt e.key=true:=fun e he=>by
  obtain⟨k,C⟩:=fI he;have ag:k<es.length:=by rw[<- hl];exact(bU.1 C).1
  rw[X k es[k] e (by simp[ag]) C];exact cv.1 kp _ (eE ag)
 rcases L.find w key hk ms hms with⟨h1,h2⟩|⟨j,e,h1,h2,O⟩
 .left
  have a8:∀ e∈es,e.1≠key:=fun e he hke=>by
   obtain⟨k,C⟩:=fI he;have ag:k<ms.length:=by rw[hl];exact(bU.1 C).1
   exact h2 ms[k] (eE ag) ((X k e ms[k] C (by simp[ag])).trans hke)
  refine⟨?_,h1,a8⟩;cases U:eu key es with
  |none=>rfl
  |some x=>
   obtain⟨j,d⟩:=x;obtain⟨k',O,J⟩:=Io U;exact absurd (RQ J) (a8 _ (cX O))
 .right;have ag:j<es.length:=by rw[<- hl];exact(bU.1 h2).1
  have hej:es[j]? =some es[j]:=by simp[ag]
  have eM:es[j].1=key:=(X j es[j] e hej h2).symm.trans O;cases U:eu key es with
  |none=>
   have:=OG U es[j] (eE ag);rw[eM,L.refl key hk] at this;cases this
  |some x=>
   obtain⟨j',d⟩:=x;obtain⟨k',J,h5⟩:=Io U;have C:=RQ h5;subst C;have jG:j'<es.length:=(bU.1 J).1
   have Di:j'=j:=by
    refine(List.getElem_inj (h₀:=by simpa using jG) (h₁:=by simpa using ag) dE).1 ?_;simp only[List.getElem_map];have:=(bU.1 J).2;rw[this,eM]
   subst Di;exact⟨j',d,e,rfl,h1,h2,O,J⟩
variable{F:Nat->Prop}{m:Mem}{nx:Nat}{β:av}{w:World}
theorem QU:∀ {cs:List D} {vs us:List Value},Af cs=some vs->us.length=cs.length->(∀ (k:Nat) (d:D) (u:Value),cs[k]? =some d->us[k]? =some u->R F β w d u)->us=vs
 |[],vs,us,h,hl,_=>by
  simp[Af] at h;subst h;simpa using hl
 |d::cs,vs,us,h,hl,hr=>by
  cases us with
  |nil=>simp at hl
  |cons u us=>
   have h0:=hr 0 d u rfl rfl;cases d with
   |s v=>
    simp only[Af,cN] at h;obtain⟨C,h1,rfl⟩:=h;rw[h0.cm.1,QU (us:=us) h1 (by simpa using hl) fun k d u hd hu=>hr (k+1) d u (by simpa using hd) (by simpa using hu)]
   |_=>simp[Af] at h
theorem zZ{d:D}{key v:Value}(hk:mT d=some key)(h:R F β w d v):v=key:=by
 unfold mT at hk;split at hk
 .rw[h.cm.1];simpa using hk
 .obtain⟨us,rfl,hl,hr⟩:=h.qk;simp only[cN] at hk;obtain⟨vs,h1,rfl⟩:=hk;rw[QU h1 hl hr]
 .cases hk
theorem R.B4(hm:ax P F m β w){i:Nat}{es:List (Value×D)}{v:Value}(h:R F β w (.mp i) v)(hi:m i=some (.map es)):
 ∃ r ms clock,β i=some (.map r)/\v=.map (some r)/\w.heap[r]? =some (.map ms clock)/\ms.size=es.length/\(es.map (·.1)).Nodup/\
  ∀ (k:Nat) (x:Value×D) (m:MapEntry),es[k]? =some x->ms[k]? =some m->m.key=x.1/\R F β w x.2 m.val:=by
 obtain⟨p,hp,af⟩:=hm.row i _ hi;cases h with
 |yF _ _ h _=>rw[h] at hp;cases hp;cases af
 |mp _ r h=>
  rw[h] at hp;cases hp;cases af with
  |map _ _ ms clock h1 h2 C J=>exact⟨r,ms,clock,h,rfl,h1,h2,C,J⟩
theorem R.adm{es:List (Value×D)}{v:Value}(h:R F β w (.im es) v):
 ∃ r ms clock,v=.map (some r)/\w.heap[r]? =some (.map ms clock)/\ms.size=es.length/\(es.map (·.1)).Nodup/\
  ∀ (k:Nat) (x:Value×D) (m:MapEntry),es[k]? =some x->ms[k]? =some m->m.key=x.1/\R F β w x.2 m.val:=by
 cases h with
 |im _ r ms clock hf hb hc hl dE hk hh=>exact⟨r,ms,clock,rfl,hc,hl,dE,fun k x m hx hm=>⟨hk k x m hx hm,hh k x m hx hm⟩⟩
theorem EG{t:TypeId}(ht:aB P t=true)(C:tU P t=true):∃ v,(zeroValue t).run P w=.ok v w/\R F β w (lO P t) v:=by
 obtain⟨i,d,z,hi,_,hz,yP,jf,O,_,_,h4⟩:=qd ht;obtain⟨X,c2⟩:=xA (F:=F) (β:=β) (w:=w) O h4;refine⟨z,by simp[zeroValue,typeInfo,hi,hz],?_⟩;unfold lO;unfold tU at C;simp only[hi,Option.bind_some,hz] at C
 have single:(∀ cs,z≠ .agg cs)->bq P t=false->R F β w ((aV P t).headD .u) z:=fun J ha=>by
  have hc:z.cells.toList=[z]:=by cases z<;>first|rfl|exact absurd rfl (J _)
  have:aV P t=[jq z]:=by rw[O,hc];rfl
  rw[this];exact J4 z
 split at C
 .rename_i cs U;simp only[aH] at U;subst U;rw[if_pos C];have:=R.agg (F:=F) (β:=β) (w:=w) (aV P t) cs.toList (by simpa[Value.cells] using X) fun k d u hd hu=>(c2 k d u hd (by simpa[Value.cells] using hu)).1;simpa using this
 .rename_i u J hu;simp only[Bool.not_eq_true'] at C;simp only[aH] at hu;rw[if_neg (by simp[C])];exact single (fun cs h=>J cs (by rw[<- hu,h])) C
 .cases C
theorem X'(hm:ax P F m β w){t:TypeId}{x k:D}{ok:Bool}{vx U:Value}(hx:R F β w x vx)(hk:R F β w k U){e:cR}(h:mB P m t x k ok=some e)(hp:e.pre):
 aK P F m nx β w e (do Pure.pure (Next.value (<- Instr.lookup t vx U ok))):=by
 unfold mB at h;split at h
 .rename_i key i J;rw[zZ J hk];split at h
  .rename_i es hi;cases h;obtain⟨h1,h2,O⟩:=hp;have L:=zn h1;obtain⟨r,ms,clock,X,rfl,hb,hl,dE,hh⟩:=hx.B4 hm hi;obtain⟨z,hz,C⟩:=EG (F:=F) (β:=β) (w:=w) L.elem L.zero;rcases BD L w h2 O (ms:=ms.toList) (by simpa using hl) (fun k x m hx hm=>(hh k x m hx (by simpa using hm)).1) dE with⟨f1,f2,_⟩|⟨j,d,en,f1,f2,f3,f4,f5⟩
   .refine⟨.value (if ok then .tuple #[z,.bool false] else z),_,w,β,?_,.inl rfl,?_,hm,Step.refl β w,fun _ h _=>h⟩
    .simp[Instr.lookup,run_underlying L.sv,MapKept.run_getObj_map hb,L.check w _ key h2,f2,hz]
    .simp only[f1,fV];cases ok
     .exact C
     .exact .aT _ [z,.bool false] rfl fun k d u hd hu=>by
       match k with
       |0=>simp at hd hu;subst hd;subst hu;exact C
       |1=>simp at hd hu;subst hd;subst hu;exact .s _ rfl
       |k+2=>simp at hd
   .have hv:=(hh j _ en f5 (by simpa using f3)).2;refine⟨.value (if ok then .tuple #[en.val,.bool true] else en.val),_,w,β,?_,.inl rfl,?_,hm,Step.refl β w,fun _ h _=>h⟩
    .simp[Instr.lookup,run_underlying L.sv,MapKept.run_getObj_map hb,L.check w _ key h2,f2]
    .simp only[f1,fV];cases ok
     .exact hv
     .exact .aT _ [en.val,.bool true] rfl fun k d u hd hu=>by
       match k with
       |0=>simp at hd hu;subst hd;subst hu;exact hv
       |1=>simp at hd hu;subst hd;subst hu;exact .s _ rfl
       |k+2=>simp at hd
  .cases h
 .rename_i key es J;rw[zZ J hk]
  .cases h;obtain⟨h1,h2,O⟩:=hp;have L:=zn h1;obtain⟨r,ms,clock,rfl,hb,hl,dE,hh⟩:=hx.adm;obtain⟨z,hz,C⟩:=EG (F:=F) (β:=β) (w:=w) L.elem L.zero;rcases BD L w h2 O (ms:=ms.toList) (by simpa using hl) (fun k x m hx hm=>(hh k x m hx (by simpa using hm)).1) dE with⟨f1,f2,_⟩|⟨j,d,en,f1,f2,f3,f4,f5⟩
   .refine⟨.value (if ok then .tuple #[z,.bool false] else z),_,w,β,?_,.inl rfl,?_,hm,Step.refl β w,fun _ h _=>h⟩
    .simp[Instr.lookup,run_underlying L.sv,MapKept.run_getObj_map hb,L.check w _ key h2,f2,hz]
    .simp only[f1,fV];cases ok
     .exact C
     .exact .aT _ [z,.bool false] rfl fun k d u hd hu=>by
       match k with
       |0=>simp at hd hu;subst hd;subst hu;exact C
       |1=>simp at hd hu;subst hd;subst hu;exact .s _ rfl
       |k+2=>simp at hd
   .have hv:=(hh j _ en f5 (by simpa using f3)).2;refine⟨.value (if ok then .tuple #[en.val,.bool true] else en.val),_,w,β,?_,.inl rfl,?_,hm,Step.refl β w,fun _ h _=>h⟩
    .simp[Instr.lookup,run_underlying L.sv,MapKept.run_getObj_map hb,L.check w _ key h2,f2]
    .simp only[f1,fV];cases ok
     .exact hv
     .exact .aT _ [en.val,.bool true] rfl fun k d u hd hu=>by
       match k with
       |0=>simp at hd hu;subst hd;subst hu;exact hv
       |1=>simp at hd hu;subst hd;subst hu;exact .s _ rfl
       |k+2=>simp at hd
 .rename_i key J;rw[zZ J hk];cases h;obtain⟨h1,h2⟩:=hp;have L:=zn h1;rw[hx.cm.1];obtain⟨z,hz,C⟩:=EG (F:=F) (β:=β) (w:=w) L.elem L.zero;rcases BD L w h2 (es:=[]) rfl (ms:=[]) rfl oS oS with⟨f1,f2,_⟩|⟨j,d,en,f1,f2,f3,f4,f5⟩
  .refine⟨.value (if ok then .tuple #[z,.bool false] else z),_,w,β,?_,.inl rfl,?_,hm,Step.refl β w,fun _ h _=>h⟩
   .simp[Instr.lookup,run_underlying L.sv,L.check w _ key h2,f2,hz]
   .simp only[fV];cases ok
    .exact C
    .exact .aT _ [z,.bool false] rfl fun k d u hd hu=>by
      match k with
      |0=>simp at hd hu;subst hd;subst hu;exact C
      |1=>simp at hd hu;subst hd;subst hu;exact .s _ rfl
      |k+2=>simp at hd
  .simp at f5
 .cases h
theorem Ya{w:World}{r:Nat}{o o':Obj}(hb:w.heap[r]? =some o):(w.heap.setIfInBounds r o').size=w.heap.size/\(w.heap.setIfInBounds r o')[r]? =some o'/\∀ k,k≠r->(w.heap.setIfInBounds r o')[k]? =w.heap[k]? :=
 ⟨oS,(MapKept.heap_set hb).1,fun k hk=>(MapKept.heap_set hb).2 k hk⟩
theorem Ea(hm:ax P F m β w){i r:Nat}{ms:Array MapEntry}{clock:Nat}(C:β i=some (.map r))(hb:w.heap[r]? =some (.map ms clock)){es':List (Value×D)}{ms':Array MapEntry}{clock':Nat}
 (hl:ms'.size=es'.length) (dE:(es'.map (·.1)).Nodup) (hh:∀ (k:Nat) (x:Value×D) (m:MapEntry),es'[k]? =some x->ms'[k]? =some m->m.key=x.1/\R F β w x.2 m.val):
 ax P F (up m i (some (.map es'))) β { w with heap:=w.heap.setIfInBounds r (.map ms' clock') }/\Step β w β { w with heap:=w.heap.setIfInBounds r (.map ms' clock') }:=by
 obtain⟨J,q2,O⟩:=Ya (o':=.map ms' clock') hb;have hs:=Bv (w':={ w with heap:=w.heap.setIfInBounds r (.map ms' clock') }) hm C rfl (by simp[J]) O;refine⟨hm.write C rfl J O _ (.map es' r ms' clock' q2 hl dE fun k x X hx U=>?_),hs⟩;obtain⟨h1,h2⟩:=hh k x X hx U;exact⟨h1,h2.step hs⟩
theorem OH(hm:ax P F m β w){t:TypeId}{x k v:D}{vx vk J:Value}(hx:R F β w x vx)(hk:R F β w k vk)(hv:R F β w v J){e:cR}(h:mC P m t x k v=some e)(hp:e.pre):
 aK P F m nx β w e (do Instr.mapUpdate t vx vk J;Pure.pure Next.skip):=by
 unfold mC at h;split at h
 .rename_i key i tJ;rw[zZ tJ hk];split at h
  .rename_i es hi;cases h;obtain⟨h1,h2,h3⟩:=hp;have L:=zn h1;obtain⟨r,ms,clock,hβ,rfl,hb,hl,dE,hh⟩:=hx.B4 hm hi;rcases BD L w h2 h3 (ms:=ms.toList) (by simpa using hl) (fun k x m hx hm=>(hh k x m hx (by simpa using hm)).1) dE with⟨f1,f2,f3⟩|⟨j,d,en,f1,f2,f3,f4,f5⟩
   .obtain⟨U,X⟩:=Ea (P:=P) hm hβ hb (es':=lz key v es) (ms':=ms.push { key,val:=J,born:=clock }) (clock':=clock+1) (by simp[lz,f1,hl])
     (by
      simp only[lz,f1,List.map_append,List.map_cons,List.map_nil];rw[List.nodup_append];refine⟨dE,oS,fun a ha b lC=>?_⟩;simp only[List.mem_singleton] at lC;subst lC;obtain⟨y,hy,rfl⟩:=List.mem_map.1 ha
      exact f3 y hy)
     (fun k x mm hx C=>by
      simp only[lz,f1] at hx;rcases Nat.lt_or_ge k es.length with ag|bC
      .rw[List.getElem?_append_left ag] at hx;rw[Array.getElem?_push_lt oG] at C;exact hh k x mm hx (by rw[<- C];simp[show k<ms.size by omega])
      .rw[List.getElem?_append_right bC] at hx
       have A2:k - es.length=0:=by
        have:=(bU.1 hx).1;simp at this;omega
       rw[A2] at hx;simp at hx;subst hx;have:k=ms.size:=by omega
       subst this;simp at C;subst C
       exact⟨rfl,hv⟩)
    exact⟨.skip,undef,_,β,by simp[Instr.mapUpdate,run_underlying L.sv,MapKept.run_getObj_map hb,L.check w _ key h2,f2,MapKept.run_setObj_map _ hb],.inr ⟨rfl,rfl⟩,.aT [] [] rfl oS,U,X,fun _ h _=>h⟩
   .have GI:j<es.length:=(bU.1 f5).1
    obtain⟨U,X⟩:=Ea (P:=P) hm hβ hb (es':=lz key v es) (ms':=ms.modify j fun e=>{ e with key:=key,val:=J }) (clock':=clock) (by simp[lz,f1,hl])
     (by
      have:(lz key v es).map (·.1)=es.map (·.1):=by
       simp only[lz,f1,List.map_set]
       have h5:(es.map (·.1))[j]'(by simpa using GI)=key:=by
        have:=(bU.1 f5).2;simp[this]
       rw[<- h5];exact List.set_getElem_self _
      rw[this];exact dE)
     (fun k x mm hx C=>by
      simp only[lz,f1] at hx;rw[Array.getElem?_modify] at C;by_cases O:k=j
      .subst O;simp only[if_pos] at C;rw[List.getElem?_set_self GI] at hx;simp only[aH] at hx;subst hx;simp only[cN] at C;obtain⟨en',_,rfl⟩:=C;exact⟨rfl,hv⟩
      .rw[if_neg (Ne.symm O)] at C;rw[List.getElem?_set_ne (Ne.symm O)] at hx
       exact hh k x mm hx C)
    have hj:ms[j]? =some en:=by simpa using f3
    exact⟨.skip,undef,_,β,by simp[Instr.mapUpdate,run_underlying L.sv,MapKept.run_getObj_map hb,L.check w _ key h2,f2,hj,f4,L.stays w key h2,MapKept.run_setObj_map _ hb],.inr ⟨rfl,rfl⟩,.aT [] [] rfl oS,U,X,fun _ h _=>h⟩
  .cases h
 .cases h
theorem acd{ts:Array TypeId}(h:ts.size≠0):ts[0]? =some (ts.getD 0 0):=by
 have:0<ts.size:=by omega
 simp[Array.getD_eq_getD_getElem?,this]
theorem Yb(hm:ax P F m β w){ts:Array TypeId}{ty:TypeId}(kQ:ts.size≠0){x k:D}{vx vk:Value}(hx:R F β w x vx)(hk:R F β w k vk){e:cR}(h:sZ P m (ts.getD 0 0) x k=some e)(hp:e.pre):
 aK P F m nx β w e (do Pure.pure (Next.value (<- Builtin.delete_ ts ty #[vx,vk]))):=by
 have nd:=acd kQ;generalize ts.getD 0 0=t at*
 unfold sZ at h;split at h
 .rename_i key i tJ;rw[zZ tJ hk];split at h
  .rename_i es hi;cases h;obtain⟨h1,h2,h3⟩:=hp;have L:=zn h1;obtain⟨r,ms,clock,hβ,rfl,hb,hl,dE,hh⟩:=hx.B4 hm hi;rcases BD L w h2 h3 (ms:=ms.toList) (by simpa using hl) (fun k x m hx hm=>(hh k x m hx (by simpa using hm)).1) dE with⟨f1,f2,f3⟩|⟨j,d,en,f1,f2,f3,f4,f5⟩
   .obtain⟨U,X⟩:=Ea (P:=P) hm hβ hb (es':=r5 key es) (ms':=ms) (clock':=clock) (by simp[r5,f1,hl]) (by simpa[r5,f1] using dE) (fun k x J hx C=>hh k x J (by simpa[r5,f1] using hx) C);exact⟨.value (.tuple #[]),.tuple #[],_,β,by simp[Builtin.delete_,nd,run_underlying L.sv,MapKept.run_getObj_map hb,L.check w _ key h2,f2,MapKept.run_setObj_map _ hb],.inl rfl,.aT [] [] rfl oS,U,X,fun _ h _=>h⟩
   .have GI:j<es.length:=(bU.1 f5).1;have VO:j<ms.size:=by omega
    have he:∀ k,(ms.eraseIdxIfInBounds j)[k]? =if k<j then ms[k]? else ms[k+1]? :=fun k=>by
     have h0:(ms.eraseIdxIfInBounds j).toList=ms.toList.eraseIdx j:=by simp[Array.eraseIdxIfInBounds,VO]
     rw[<- Array.getElem?_toList,h0,List.getElem?_eraseIdx];simp
    obtain⟨U,X⟩:=Ea (P:=P) hm hβ hb (es':=r5 key es) (ms':=ms.eraseIdxIfInBounds j) (clock':=clock) (by simp[r5,f1,Array.eraseIdxIfInBounds,VO,hl,List.length_eraseIdx,GI])
     (by simp only[r5,f1];exact List.Nodup.sublist ((List.eraseIdx_sublist es j).map _) dE)
     (fun k x J hx C=>by
      simp only[r5,f1,List.getElem?_eraseIdx] at hx;rw[he] at C;split at hx
      .rename_i O;rw[if_pos O] at C;exact hh k x J hx C
      .rename_i O;rw[if_neg O] at C;exact hh (k+1) x J hx C)
    exact⟨.value (.tuple #[]),.tuple #[],_,β,by simp[Builtin.delete_,nd,run_underlying L.sv,MapKept.run_getObj_map hb,L.check w _ key h2,f2,MapKept.run_setObj_map _ hb],.inl rfl,.aT [] [] rfl oS,U,X,fun _ h _=>h⟩
  .cases h
 .cases h
end
theorem OF{a b:Value}(h:xJ a b=true):gL a=true/\gL b=true:=by
 unfold xJ at h;split at h<;>first|exact⟨rfl,rfl⟩|cases h
def Al(xs ys:List Value):Prop:=xs.length=ys.length/\∀ (k:Nat) (x y:Value),xs[k]? =some x->ys[k]? =some y->xJ x y=true
section
variable{P:Program}
theorem X8{xs ys:List Value}(h:Al xs ys):(∀ x∈xs,gL x=true)/\∀ y∈ys,gL y=true:=by
 refine⟨fun x hx=>?_,fun y hy=>?_⟩
 .obtain⟨k,hk⟩:=fI hx;have ag:k<ys.length:=by rw[<- h.1];exact(bU.1 hk).1
  exact(OF (h.2 k x ys[k] hk (by simp[ag]))).1
 .obtain⟨k,hk⟩:=fI hy;have ag:k<xs.length:=by rw[h.1];exact(bU.1 hk).1
  exact(OF (h.2 k xs[k] y (by simp[ag]) hk)).2
theorem YW(w:World)(d:Nat){t:TypeId}(ht:r4 P t=true){x y:Value}(hx:jl x=vq P t)(hk:xJ x y=true):
 ∃ r:Bool,(Op.equalIn (d+1) t x y).run P w=.ok r w/\(r=true↔x=y):=by
 unfold xJ at hk;unfold vq at hx;split at hk
 .rename_i k a k' b;simp only[beq_iff_eq] at hk;subst hk;split at hx<;>simp[jl] at hx;rename_i hu;exact⟨a==b,run_equalIn_int w d t _ _ a b hu,oS⟩
 .rename_i a b;split at hx<;>simp[jl] at hx;rename_i hu;exact⟨a==b,run_equalIn_bool' w d t a b hu,oS⟩
 .rename_i a b;split at hx<;>simp[jl] at hx;rename_i hu;refine⟨a==b,?_,?_⟩
  .rw[run_equalIn_string w d t a b hu,beq_toListBytes]
  .rw[MapKept.bytes_beq];simp
 .cases hk
theorem step_eq(w:World)(d:Nat){t:TypeId}(ht:r4 P t=true){xs ys:Array Value}(hk:Al xs.toList ys.toList){off:Nat}(C:off<xs.size)(O:∀ x,xs.toList[off]? =some x->jl x=vq P t):
 ∃ a b r,(part t xs off).run P w=.ok a w/\(part t ys off).run P w=.ok b w/\(Op.equalIn (d+1) t a b).run P w=.ok r w/\(r=true↔xs.toList[off]? =ys.toList[off]?):=by
 have br:xs.size=ys.size:=by simpa using hk.1
 have h0:=ht;simp only[r4,aw,Bool.not_eq_true'] at h0;have J:off<ys.size:=by omega
 obtain⟨r,hr,U⟩:=YW (P:=P) w d ht (x:=xs[off]) (y:=ys[off]) (O _ (by simp[C])) (hk.2 off _ _ (by simp[C]) (by simp[J]));refine⟨xs[off],ys[off],r,?_,?_,hr,?_⟩
 .unfold part;simp[By w (zu h0.1.2),h0.2,C]
 .unfold part;simp[By w (zu h0.1.2),h0.2,J]
 .rw[U];simp[C,J]
theorem Og(w:World)(d:Nat){e:TypeId}(ht:r4 P e=true){xs ys:Array Value}(hk:Al xs.toList ys.toList):∀ (C:List Nat),(∀ i∈C,i<xs.size/\∀ x,xs.toList[i]? =some x->jl x=vq P e)->
 ∃ r:Bool,(Op.eqItems (d+1) e (P.cellsOf e) xs ys C).run P w=.ok r w/\(r=true↔∀ i∈C,xs.toList[i]? =ys.toList[i]?)
 |[],_=>⟨true,by simp[Op.eqItems],oS⟩
 |i::C,h=>by
  have hc:P.cellsOf e=1:=by simp only[r4,aw,beq_iff_eq] at ht;exact ht.1.1.2
  obtain⟨a,b,r,p1,p2,p3,J⟩:=step_eq w d ht hk (h i oS).1 (h i oS).2;obtain⟨r',O,U⟩:=Og w d ht hk C fun j hj=>h j (by simp[hj]);rw[hc] at O ⊢;simp only[Op.eqItems,Nat.mul_one,Sem.run_bind,p1,p2,p3,Result.andThen_ok];cases r
  .refine⟨false,oS,?_⟩;simp only[Bool.false_eq_true,false_iff] at J ⊢;intro X;exact J (X i oS)
  .refine⟨r',by simpa using O,?_⟩;rw[U]
   exact⟨fun h j hj=>by
    rcases List.mem_cons.1 hj with rfl|hj
    .exact J.1 rfl
    .exact h j hj,fun h j hj=>h j (by simp[hj])⟩
theorem N7(w:World)(d:Nat){xs ys:Array Value}(hk:Al xs.toList ys.toList):∀ (fs:List Field),(∀ f∈fs,f.name≠"_"/\r4 P f.type=true/\f.offset<xs.size/\∀ x,xs.toList[f.offset]? =some x->jl x=vq P f.type)->
 ∃ r:Bool,(Op.eqFields (d+1) xs ys fs).run P w=.ok r w/\(r=true↔∀ f∈fs,xs.toList[f.offset]? =ys.toList[f.offset]?)
 |[],_=>⟨true,by simp[Op.eqFields],oS⟩
 |f::fs,h=>by
  obtain⟨hn,ht,ho,pi⟩:=h f oS;obtain⟨a,b,r,X,p2,p3,C⟩:=step_eq w d ht hk ho pi;obtain⟨r',U,J⟩:=N7 w d hk fs fun g hg=>h g (by simp[hg]);simp only[Op.eqFields,hn,ne_eq,not_false_eq_true,if_true,Sem.run_bind,X,p2,p3,Result.andThen_ok];cases r
  .refine⟨false,oS,?_⟩;simp only[Bool.false_eq_true,false_iff] at C ⊢;intro O;exact C (O f oS)
  .refine⟨r',by simpa using U,?_⟩;rw[J]
   exact⟨fun h j hj=>by
    rcases List.mem_cons.1 hj with rfl|hj
    .exact C.1 rfl
    .exact h j hj,fun h j hj=>h j (by simp[hj])⟩
theorem aat:∀ {a b:List Value},a.all gL=true->(gM a b=true↔a=b):=fun h=>⟨Jr,fun e=>by subst e;exact IB h⟩
theorem Oh(w:World){t:TypeId}{ks:List Nat}(ht:xI P t=some ks){xs ys:List Value}(hk:Al xs ys)(O:xs.map jl=ks):
 (Op.equal t (.agg xs.toArray) (.agg ys.toArray)).run P w=.ok (gM xs ys) w:=by
 obtain⟨s1,s2⟩:=X8 hk;have ct:xs.all gL=true:=cv.2 s1
 have fin:∀ r:Bool,(r=true↔xs=ys)->r=gM xs ys:=fun r h=>by
  have:=aat (b:=ys) ct;cases r<;>cases hv:gM xs ys<;>simp_all
 unfold xI at ht;split at ht
 .rename_i n e hu;split at ht
  .rename_i hc;simp only[aw,beq_iff_eq] at hc;simp only[aH] at ht;subst ht;have hlen:xs.length=n:=by have:=congrArg List.length O;simpa using this
   have J:=hc.1;obtain⟨i,hi⟩:=Option.isSome_iff_exists.1 (fP (show aB P e=true by simp only[r4,aw] at J;exact J.1.2))
   obtain⟨r,hr,oU⟩:=Og (P:=P) w 9998 J (xs:=xs.toArray) (ys:=ys.toArray) (by simpa using hk) (List.range n) fun i hi=>by
    simp only[List.mem_range] at hi;refine⟨by simp;omega,fun x hx=>?_⟩;have:(xs.map jl)[i]? =some (jl x):=by simp at hx;simp[hx]
    rw[O] at this;simp[List.getElem?_replicate,hi] at this;exact this.symm
   have X:=run_equalIn_array (P:=P) (w:=w) 9999 (t:=t) (e:=e) (n:=n) xs.toArray ys.toArray hu hi;show(Op.equalIn (9999+1) t _ _).run P w=_;rw[X,hr,fin r];rw[oU];constructor
   .intro h;apply List.ext_getElem?;intro i;rcases Nat.lt_or_ge i n with ag|bC
    .simpa using h i (by simpa using ag)
    .rw[List.getElem?_eq_none oG,List.getElem?_eq_none (by rw[<- hk.1];omega)]
   .rintro rfl i _;rfl
  .cases ht
 .rename_i fs hu;split at ht
  .rename_i hc;simp only[aw,beq_iff_eq,cv,bne_iff_ne,ne_eq,Bool.not_eq_true'] at hc;obtain⟨⟨hf,U⟩,bF⟩:=hc;simp only[aH] at ht;subst ht;have hlen:xs.length=fs.toList.length:=by have:=congrArg List.length O;simpa using this
   have mU:∀ (l:List Field) (o:Nat),P.runs o l=some (o+l.length)->(∀ f∈l,P.cellsOf f.type=1)->∀ (j:Nat) (f:Field),l[j]? =some f->f.offset=o+j:=by
    intro l
    induction l with
    |nil=>intro o _ _ j f hj;simp at hj
    |cons g l ih=>
     intro o ho h1 j f hj;simp only[Program.runs] at ho;split at ho
     .rename_i hgo;have hg1:=h1 g oS;rw[hg1] at ho;cases j with
      |zero=>simp at hj;subst hj;simpa using hgo
      |succ j=>
       have:=ih (o+1) (by rw[ho];simp;omega) (fun f hf=>h1 f (by simp[hf])) j f (by simpa using hj);omega
     .cases ho
   have J:∀ f∈fs.toList,P.cellsOf f.type=1:=fun f C=>by
    have:=(hf f C).2;simp only[r4,aw,beq_iff_eq] at this;exact this.1.1.2
   have jI:=mU fs.toList 0 (by simpa using U) J
   obtain⟨r,hr,oU⟩:=N7 (P:=P) w 9998 (xs:=xs.toArray) (ys:=ys.toArray) (by simpa using hk) fs.toList fun f C=>by
    obtain⟨j,hj⟩:=fI C;have c8:j<fs.toList.length:=(bU.1 hj).1;have ho:f.offset=j:=by have:=jI j f hj;omega
    refine⟨(hf f C).1,(hf f C).2,by rw[ho];simp;simp at hlen c8;omega,fun x hx=>?_⟩;rw[ho] at hx;have h1:(xs.map jl)[j]? =some (jl x):=by simp at hx;simp[hx]
    rw[O,List.getElem?_map,hj] at h1;simpa using h1.symm
   have VN:P.fieldsOf t=fs:=by simp[Program.fieldsOf,hu]
   have X:=run_equalIn_struct (P:=P) w 9999 t xs.toArray ys.toArray (by rw[VN];exact hu) bF;show(Op.equalIn (9999+1) t _ _).run P w=_;rw[X,VN,hr,fin r];rw[oU];constructor
   .intro h;apply List.ext_getElem?;intro j;rcases Nat.lt_or_ge j fs.toList.length with ag|bC
    .have h1:=h fs.toList[j] (eE ag);have ho:=jI j fs.toList[j] oS;rw[Nat.zero_add] at ho;rw[ho] at h1;simpa using h1
    .rw[List.getElem?_eq_none oG,List.getElem?_eq_none (by rw[<- hk.1];omega)]
   .rintro rfl f _;rfl
  .cases ht
 .cases ht
variable{F:Nat->Prop}{m:Mem}{nx:Nat}{β:av}{w:World}
theorem IC:∀ {xs ys:List D} {a b:List Value},nN xs ys=some (a,b)->xs=a.map D.s/\ys=b.map D.s/\Al a b
 |[],[],a,b,h=>by
  simp[nN] at h;obtain⟨rfl,rfl⟩:=h;exact⟨rfl,rfl,rfl,oS⟩
 | .s x::xs,.s y::ys,a,b,h=>by
  simp only[nN] at h;split at h
  .rename_i hk;simp only[cN] at h;obtain⟨⟨a',J⟩,h1,h2⟩:=h;simp only[bR] at h2;obtain⟨rfl,rfl⟩:=h2;obtain⟨C,e2,e3,e4⟩:=IC h1;refine⟨by simp[C],by simp[e2],by simp[e3],fun k u v hu hv=>?_⟩;cases k with
   |zero=>simp at hu hv;subst hu;subst hv;exact hk
   |succ k=>exact e4 k u v (by simpa using hu) (by simpa using hv)
  .cases h
 |[],_::_,_,_,h=>by simp[nN] at h
 |_::_,[],_,_,h=>by simp[nN] at h
 | .u::_,_::_,_,_,h | .ub::_,_::_,_,_,h | .cu _ _::_,_::_,_,_,h | .agg _::_,_::_,_,_,h | .aT _::_,_::_,_,_,h | .z::_,_::_,_,_,h | .sl _ _::_,_::_,_,_,h | .pt _::_,_::_,_,_,h
 | .rs _ _ _::_,_::_,_,_,h | .rp _ _::_,_::_,_,_,h | .mp _::_,_::_,_,_,h | .fn _ _ _::_,_::_,_,_,h=>by simp[nN] at h
 | .s _::_,.u::_,_,_,h | .s _::_,.ub::_,_,_,h | .s _::_,.cu _ _::_,_,_,h | .s _::_,.agg _::_,_,_,h | .s _::_,.aT _::_,_,_,h | .s _::_,.z::_,_,_,h | .s _::_,.sl _ _::_,_,_,h | .s _::_,.pt _::_,_,_,h
 | .s _::_,.rs _ _ _::_,_,_,h | .s _::_,.rp _ _::_,_,_,h | .s _::_,.mp _::_,_,_,h | .s _::_,.fn _ _ _::_,_,_,h=>by simp[nN] at h
theorem EE{a:List Value}{v:Value}(h:R F β w (.agg (a.map D.s)) v):v=.agg a.toArray:=by
 obtain⟨vs,rfl,hl,hr⟩:=h.qk;congr 2;apply List.ext_getElem?;intro k;rcases Nat.lt_or_ge k a.length with ag|C
 .have hk:k<vs.length:=by rw[hl];simpa using ag
  have:=(hr k (.s a[k]) vs[k] (by simp[ag]) (by simp[hk])).cm.1;simp[ag,hk,this]
 .rw[List.getElem?_eq_none (by rw[hl];simpa using C),List.getElem?_eq_none C]
theorem YX(hm:ax P F m β w){op:BinOp}{t:TypeId}(ox oy:Operand){xs ys:List D}{x y:Value}{q:Prop×D}(hx:R F β w (.agg xs) x)(hy:R F β w (.agg ys) y)(h:xu P op t xs ys=some q)(hp:q.1):
 aK P F m nx β w { pre:=q.1,val:=q.2 } ((do eqGuard op t ox oy x y;binOp op t x y)>>=fun r=>Pure.pure (Next.value r)):=by
 unfold xu at h;split at h
 .rename_i J z hf hz;cases h;obtain⟨a,b⟩:=z;obtain⟨C,e2,hk⟩:=IC hz;subst C e2;rw[EE hx,EE hy];have:=Oh (P:=P) w hf hk hp.1;refine aK.val hm (v:=.bool (gM a b)) ?_ (.s _ rfl);have e3:(Op.equalIn 10000 t (.agg a.toArray) (.agg b.toArray)).run P w=.ok (gM a b) w:=this;simp only[Sem.run_bind,run_eqGuard_agg (P:=P) w .eql t ox oy _ _ hp.2,Result.andThen_ok,run_eql_struct,e3,Sem.run_pure]
 .rename_i J z hf hz;cases h;obtain⟨a,b⟩:=z;obtain⟨C,e2,hk⟩:=IC hz;subst C e2;rw[EE hx,EE hy];have:=Oh (P:=P) w hf hk hp.1;refine aK.val hm (v:=.bool !(gM a b)) ?_ (.s _ rfl);have e3:(Op.equalIn 10000 t (.agg a.toArray) (.agg b.toArray)).run P w=.ok (gM a b) w:=this;simp only[Sem.run_bind,run_eqGuard_agg (P:=P) w .neq t ox oy _ _ hp.2,Result.andThen_ok,run_neq_struct,e3,Sem.run_pure]
 .cases h
end
section
variable{P:Program}{F:Nat->Prop}{m:Mem}{nx:Nat}{β:av}{w:World}
theorem Q7{ps:Array (Nat×Operand)}{ρ:Operand->D}{a:Act}(h:∀ x∈(ps.toList.map (·.2)),R F β w (ρ x) (a.eval x)):
 (ps.toList.map fun q=>(q.1,ρ q.2)).length=(ps.map fun(i,x)=>(i,a.eval x)).size/\
 ∀ (k:Nat) (p:Nat×D) (q:Nat×Value),(ps.toList.map fun q=>(q.1,ρ q.2))[k]? =some p->(ps.map fun(i,x)=>(i,a.eval x))[k]? =some q->p.1=q.1/\R F β w p.2 q.2:=by
 refine⟨oS,fun k p q hk hq=>?_⟩;simp only[List.getElem?_map,Array.getElem?_map] at hk hq;cases C:ps[k]? with
 |none=>simp[C] at hq
 |some y=>
  simp[C] at hk hq;subst hk;subst hq;exact⟨rfl,h _ (List.mem_map.2 ⟨y,by simpa using Array.mem_of_getElem? C,rfl⟩)⟩
theorem zT{xs:Array Operand}{ρ:Operand->D}{a:Act}(h:∀ x∈xs,R F β w (ρ x) (a.eval x)):
 (xs.toList.map a.eval).length=(xs.toList.map ρ).length/\∀ (k:Nat) (d:D) (v:Value),(xs.toList.map ρ)[k]? =some d->(xs.toList.map a.eval)[k]? =some v->R F β w d v:=by
 refine⟨oS,fun k d v hk hv=>?_⟩;simp only[List.getElem?_map] at hk hv;cases hx:xs.toList[k]? with
 |none=>simp[hx] at hk
 |some x=>
  simp[hx] at hk hv;subst hk;subst hv;exact h x (by simpa using cX hx)
theorem LM{x:Option Operand}{ρ:Operand->D}{a:Act}(h:∀ y,x=some y->R F β w (ρ y) (a.eval y)):Ro F β w (x.map ρ) (x.map a.eval):=by
 cases x with
 |none=>exact .inl ⟨rfl,rfl⟩
 |some y=>exact .inr ⟨_,_,rfl,rfl,h y rfl⟩
theorem aK.of_eq{e:cR}{s:Sem Next}(h:e.aL=[]/\e.new=0/\aK P F m nx β w e s):aK P F m nx β w e s:=h.2.2
theorem Xp(hm:ax P F m β w){b:Builtin}{ts:Array TypeId}{ty:TypeId}{cs:Array Bool}{ds:List D}{vs:List Value}{e:cR}(hn:e.new=1->β nx=none)(hl:vs.length=ds.length)
 (hR:∀ (k:Nat) (d:D) (v:Value),ds[k]? =some d->vs[k]? =some v->R F β w d v) (C:ts.size=ds.length) (h:dS P m nx b ts ds=some e) (hp:e.pre):aK P F m nx β w e (builtin b ts ty cs vs.toArray):=by
 cases b
 case len=>
  match ds,vs,hl,h,hR with
  |[d],[v],_,h,hR=>
   simp only[dS] at h;exact aK.of_eq (ach hm (by simp at C;omega) (hR 0 d v rfl rfl) h hp)
  |[],_,_,h,_=>simp[dS] at h
  |_::_::_,_,_,h,_=>simp[dS] at h
 case append=>
  match ds,vs,hl,h,hR with
  |[s,x],[v,u],_,h,hR=>
   simp only[dS] at h;split at h
   .rename_i J
    match ts,C,J,h with
    |⟨[t,t']⟩,_,J,h=>
     simp[Array.getD_eq_getD_getElem?] at J h;subst J
     have U:e.new=1:=by
      unfold py at h;simp only at h;split at h
      .cases h
      .split at h
       .simp only[aH] at h;rw[<- h]
       .split at h
        .simp only[aH] at h;rw[<- h]
        .cases h
       .cases h
     exact Yk hm (hn U) (hR 0 s v rfl rfl) (hR 1 x u rfl rfl) h hp
    |⟨[]⟩,C,_,_=>simp at C
    |⟨[_]⟩,C,_,_=>simp at C
    |⟨_::_::_::_⟩,C,_,_=>simp at C
   .cases h
  |[],_,_,h,_=>simp[dS] at h
  |[_],_,_,h,_=>simp[dS] at h
  |_::_::_::_,_,_,h,_=>simp[dS] at h
 case min=>
  match ds,vs,hl,h,hR with
  |[.s (.int k a),.s (.int k' b)],[v,u],_,h,hR=>
   simp only[dS,aH] at h;subst h;simp only at hp;subst hp;exact Q4 hm (hR 0 _ v rfl rfl) (hR 1 _ u rfl rfl)
  |ds,vs,hl,h,hR=>
   unfold dS at h;split at h<;>simp_all;subst h;subst hp
   match vs,hl with
   |[v,u],_=>exact Q4 hm (hR 0 _ v rfl rfl) (hR 1 _ u rfl rfl)
 case clear=>
  match ds,vs,hl,h,hR with
  |[d],[v],_,h,hR=>
   cases d with
   |rs i off n=>
    simp only[dS] at h;cases hi:m i with
    |none=>simp[hi] at h
    |some r=>
    cases r with
    |map es=>simp[hi] at h
    |raw es=>simp[hi] at h
    |bs u x T=>simp[hi] at h
    |lp k=>simp[hi] at h
    |eZ f r=>simp[hi] at h
    |cells c X=>
     simp only[hi,aH] at h;subst h;obtain⟨h1,h2,O⟩:=hp;exact Ze hm (by simp at C;omega) (hR 0 _ v rfl rfl) hi h1 h2 O
   |_=>simp[dS] at h
  |[],_,_,h,_=>simp[dS] at h
  |_::_::_,_,_,h,_=>simp[dS] at h
 case delete=>
  match ds,vs,hl,h,hR with
  |[x,k],[v,u],_,h,hR=>exact Yb hm (by simp at C;omega) (hR 0 x v rfl rfl) (hR 1 k u rfl rfl) h hp
  |[],_,_,h,_=>simp[dS] at h
  |[_],_,_,h,_=>simp[dS] at h
  |_::_::_::_,_,_,h,_=>simp[dS] at h
 all_goals (simp[dS] at h)
theorem Pc(hm:ax P F m β w){o:Oper}{env:Env}{a:Act}{e:cR}(hn:e.new=1->β nx=none)(hE:ez F β w env a)(ha:asks env o.op)(h:aM P o.op (aZ env o.op) m nx=some e)(hp:e.pre):
 aK P F m nx β w e (execOp a.eval o):=by
 obtain⟨dst,op,type,pos,after,guard⟩:=o;simp only at ha h
 have hR:(∀ c x y,op≠ .pick c x y)->∀ x∈op.operands.toList,R F β w (aZ env op x) (a.eval x):=fun sx x hx=>by
  have h1:aZ env op x=(opd env x).core:=by cases op<;>first|rfl|exact absurd rfl (sx _ _ _)
  have h2:(opd env x).ask:=by cases op<;>first|exact ha x hx|exact absurd rfl (sx _ _ _)
  rw[h1];exact(hE.opd x).uO _ h2
 unfold execOp;cases op with
 |move x=>
  simp only[aM,aH] at h;subst h;exact aK.val hm oS (hR oS x bB)
 |assign x=>
  simp only[aM,aH] at h;subst h;exact aK.val hm oS (hR oS x bB)
 |pick c x y=>
  simp only[aM,aZ] at h;cases hc:(opd env c).core.eT with
  |none=>simp[hc] at h
  |some t=>
  simp only[hc,aH] at h;subst h
  have hcv:a.eval c=.bool t:=by
   have h1:=(hE.opd c).uO _ ha;unfold D.eT at hc;split at hc
   .rename_i b he;cases hc;rw[he] at h1;exact h1.cm.1
   .cases hc
  exact aaE hm hcv (hE.opd x) (hE.opd y) hp.1 hp.2
 |alloc t=>
  simp only[aM,aH] at h;subst h;exact Za hm (hn rfl) hp
 |box t x=>
  simp only[aM,aH] at h;subst h;exact ace hm (hn rfl) (hR oS x bB) hp
 |build t ps=>
  simp only[aM] at h;obtain⟨q1,q2⟩:=Q7 (F:=F) (β:=β) (w:=w) (ps:=ps) (ρ:=aZ env (.build t ps)) (a:=a) (fun x hx=>hR oS x (by simpa[Op.operands] using hx));split at h
  .rename_i fs hu;cases hf:iU (fun i=>Option.map (fun f=>(f.offset,P.cellsOf f.type)) fs[i]?) (aV P t) (ps.toList.map fun q=>(q.1,aZ env (.build t ps) q.2)) with
   |none=>simp[hf] at h
   |some cs=>
    simp only[hf,Option.map_some,aH] at h;subst h;exact W3 hm hp.1 hu hp.2 q1 q2 hf
  .rename_i n e' hu;cases hf:iU (fun i=>some (i*P.cellsOf e',P.cellsOf e')) (aV P t) (ps.toList.map fun q=>(q.1,aZ env (.build t ps) q.2)) with
   |none=>simp[hf] at h
   |some cs=>
    simp only[hf,Option.map_some,aH] at h;subst h;exact Xb hm hp.1 hu hp.2 q1 q2 hf
  .cases h
 |buildSlice t n ps=>
  simp only[aM] at h;obtain⟨q1,q2⟩:=Q7 (F:=F) (β:=β) (w:=w) (ps:=ps) (ρ:=aZ env (.buildSlice t n ps)) (a:=a) (fun x hx=>hR oS x (by simpa[Op.operands] using hx));cases hf:iU (fun i=>some (i*P.cellsOf (aq P t),P.cellsOf (aq P t))) (dq n (aV P (aq P t))) (ps.toList.map fun q=>(q.1,aZ env (.buildSlice t n ps) q.2)) with
  |none=>simp[hf] at h
  |some cs=>
   simp only[hf,Option.map_some,aH] at h;subst h;obtain⟨_,J,O,p4⟩:=hp;exact Xf hm (hn rfl) O J p4 q1 q2 hf
 |load t x=>
  have hx:=hR oS x bB;simp only[aM] at h;split at h
  .rename_i cs he;rw[he] at hx;simp only[aH] at h;subst h;exact XP hm hx hp.1 hp.2
  .rename_i i off he;rw[he] at hx;split at h
   .rename_i cs ty hi;simp only[aH] at h;subst h;exact XQ hm hx hi hp.1 hp.2
   .cases h
  .cases h
 |store t x y=>
  have hx:=hR oS x bB;have hy:=hR oS y bB;simp only[aM] at h;split at h
  .rename_i i off he;rw[he] at hx;split at h
   .rename_i cs ty hi;simp only[aH] at h;subst h;obtain⟨X,J,O,p4⟩:=hp;exact Y' hm hx hy hi X J O p4
   .cases h
  .cases h
 |nilCheck x=>
  have hx:=hR oS x bB;simp only[aM] at h;split at h
  .rename_i cs he;rw[he] at hx;simp only[aH] at h;subst h;obtain⟨ad,h1,h2⟩:=Xc (pre:=True) (nx:=nx) hm hx;simp only[h1] at h2 ⊢;exact h2
  .rename_i i off he;rw[he] at hx;split at h
   .rename_i r hi;simp only[aH] at h;subst h;obtain⟨ad,h1,h2⟩:=Xd (pre:=True) (nx:=nx) (rd:=[i]) hm hx hi;simp only[h1] at h2 ⊢;exact h2
   .cases h
  .cases h
 |binOp op t x y yt=>
  have hx:=hR oS x bB;have hy:=hR oS y bB;simp only[aM] at h;split at h
  .rename_i e' U;simp only[aH] at h;subst h;unfold jZ at U;split at U
   .rename_i es n he;simp only[aH] at U;subst U;rw[he] at hx;exact Yj hm t x (.const (.slice none 0 0)) hx hp
   .rename_i i off he;split at U
    .rename_i r hi;simp only[aH] at U;subst U;rw[he] at hx;exact ON hm .eql t x _ hx hi hy hp (.inl ⟨rfl,rfl⟩)
    .cases U
   .rename_i i off he;split at U
    .rename_i r hi;simp only[aH] at U;subst U;rw[he] at hx;exact ON hm .neq t x _ hx hi hy hp (.inr ⟨rfl,rfl⟩)
    .cases U
   .cases U
  .unfold oO at h;split at h
   .rename_i b1 b2 C e2;rw[C] at hx;rw[e2] at hy;split at h
    .simp only[Option.map_some,aH] at h;subst h;exact On hm .eql t x y hx hy hp (.inl ⟨rfl,rfl⟩)
    .simp only[Option.map_some,aH] at h;subst h;exact On hm .neq t x y hx hy hp (.inr ⟨rfl,rfl⟩)
    .simp at h
   .rename_i v1 v2 _ C e2;rw[C] at hx;rw[e2] at hy;cases hb:mS op v1 v2 with
    |none=>simp[hb] at h
    |some q=>
     simp only[hb,Option.map_some,aH] at h;subst h;exact aaA hm op t x y hx hy hb hp
   .rename_i xs ys C e2;rw[C] at hx;rw[e2] at hy;cases hb:xu P op t xs ys with
    |none=>simp[hb] at h
    |some q=>
     simp only[hb,Option.map_some,aH] at h;subst h;exact YX hm x y hx hy hb hp
   .simp at h
 |unOp op t x=>
  have hx:=hR oS x bB;simp only[aM] at h;split at h
  .rename_i v he;rw[he] at hx;cases hb:AV op v with
   |none=>simp[hb] at h
   |some q=>
    simp only[hb,Option.map_some,aH] at h;subst h;exact acg hm op hx hb
  .cases h
 |convert src dst x=>
  have hx:=hR oS x bB;simp only[aM] at h;split at h
  .rename_i k k' n hd he;rw[he] at hx;simp only[aH] at h;subst h;exact Xv hm src dst hx hd (zu hp)
  .rename_i e' b hd he;rw[he] at hx;split at h
   .rename_i gy;simp only[aH] at h;subst h;exact Zd hm hx hp.1 hd gy hp.2
   .cases h
  .cases h
 |makeFunc f fs cs=>
  simp only[aM,aH] at h;subst h;obtain⟨q1,q2⟩:=zT (F:=F) (β:=β) (w:=w) (xs:=fs) (ρ:=aZ env (.makeFunc f fs cs)) (a:=a) (fun x hx=>hR oS x (by simp[Op.operands];exact .inl hx));obtain⟨q3,q4⟩:=zT (F:=F) (β:=β) (w:=w) (xs:=cs) (ρ:=aZ env (.makeFunc f fs cs)) (a:=a) (fun x hx=>hR oS x (by simp[Op.operands];exact .inr hx));have:=Xw (pre:=True) (nx:=nx) hm f q1 q3 q2 q4;have C:(fs.toList.map a.eval).toArray=fs.map a.eval:=by apply Array.ext';simp
  have e2:(cs.toList.map a.eval).toArray=cs.map a.eval:=by apply Array.ext';simp
  rw[C,e2] at this;exact this
 |makeMap t r=>
  simp only[aM] at h;split at h
  .simp only[aH] at h;subst h;exact XT hm (hn rfl)
  .cases h
 |makeSlice t l c=>
  have hx:=hR oS l bB;have hy:=hR oS c bB;simp only[aM] at h;split at h
  .rename_i n k C e2;rw[C] at hx;rw[e2] at hy;simp only[aH] at h;subst h;obtain⟨X,J,O,p4,p5⟩:=hp;subst J;show aK P F m nx β w _ (do Pure.pure (Next.value (<- Instr.makeSlice t (a.eval l) (a.eval c))));rw[hx.cm.1,hy.cm.1];exact Xl hm (hn rfl) X O p4 p5
  .cases h
 |slice t x lo hi mx=>
  have hx:=hR oS x bB;simp only[aM] at h;exact aK.of_eq (Zc hm hx (LM fun y hy=>hR oS y (by simp[Op.operands,hy])) (LM fun y hy=>hR oS y (by simp[Op.operands,hy])) (LM fun y hy=>hR oS y (by simp[Op.operands,hy])) h hp)
 |fieldAddr t x k=>
  have hx:=hR oS x bB;simp only[aM] at h;split at h
  .rename_i off ft cs hf he;rw[he] at hx;simp only[aH] at h;subst h;exact W4 hm hx hf hp
  .rename_i off ft i o hf he;rw[he] at hx;split at h
   .rename_i r hi;simp only[aH] at h;subst h;exact W5 hm hx hi hf hp
   .cases h
  .cases h
 |field t x k=>
  have hx:=hR oS x bB;simp only[aM] at h;split at h
  .rename_i off ft cs hf he;rw[he] at hx;simp only[aH] at h;subst h;exact Zb hm hx hf hp.1 hp.2
  .cases h
 |indexAddr t x i=>
  have hx:=hR oS x bB;have hy:=hR oS i bB;simp only[aM] at h;split at h
  .rename_i es n kk k C e2;rw[C] at hx;rw[e2] at hy;simp only[aH] at h;subst h;obtain⟨X,J,O,_⟩:=hp;exact W6 hm hx hy X J O
  .rename_i j off n kk k C e2;rw[C] at hx;rw[e2] at hy;split at h
   .rename_i r hj;simp only[aH] at h;subst h;obtain⟨X,J,O⟩:=hp;exact W7 hm hx hj hy X J O
   .cases h
  .rename_i j off kk k C e2;rw[C] at hx;rw[e2] at hy;split at h
   .rename_i r hj;simp only[aH] at h;subst h;obtain⟨X,J,O⟩:=hp;exact W2 hm hx hj hy X J O
   .cases h
  .cases h
 |index t x i=>
  have hx:=hR oS x bB;have hy:=hR oS i bB;simp only[aM] at h;split at h
  .rename_i b kk k C e2;rw[C] at hx;rw[e2] at hy;simp only[aH] at h;subst h;obtain⟨X,J,O⟩:=hp;exact Xm hm hx hy X J O
  .rename_i cs kk k C e2;rw[C] at hx;rw[e2] at hy;simp only[aH] at h;subst h;obtain⟨X,J,O,p4⟩:=hp;exact Xn hm hx hy X J O p4
  .cases h
 |lookup t x k ok=>exact X' hm (hR oS x bB) (hR oS k bB) (by simpa only[aM] using h) hp
 |mapUpdate t x k v=>exact OH hm (hR oS x bB) (hR oS k bB) (hR oS v bB) (by simpa only[aM] using h) hp
 |insert t x k v=>exact OH hm (hR oS x bB) (hR oS k bB) (hR oS v bB) (by simpa only[aM] using h) hp
 |extract x k=>
  have hx:=hR oS x bB;simp only[aM] at h;split at h
  .rename_i cs C;rw[C] at hx;simp only[aH] at h;subst h;exact XS hm hx hp
  .cases h
 |call c=>
  simp only[aM] at h;split at h
  .rename_i b hb;split at h
   .rename_i kQ;obtain⟨q1,q2⟩:=zT (F:=F) (β:=β) (w:=w) (xs:=c.args) (ρ:=aZ env (.call c)) (a:=a) (fun x hx=>hR oS x (by simp[Op.operands,Call.operands,hb];exact hx));have:=Xp hm (b:=b) (ts:=c.argTypes) (ty:=type) (cs:=c.args.map fun | .const _=>true|_=>false) (e:=e) hn q1 q2 (by simpa using kQ) h hp;obtain⟨n,v,w',β',h1,h2⟩:=this;refine⟨n,v,w',β',?_,h2⟩;simp only[resolve,hb,Sem.run_bind,Sem.run_pure,Result.andThen_ok,invoke];have C:(c.args.toList.map a.eval).toArray=c.args.map a.eval:=by apply Array.ext';simp
    rw[<- C];exact h1
   .cases h
  .cases h
 |_=>simp[aM] at h
end
section
variable{P:Program}{F F':Nat->Prop}{m:Mem}{nx:Nat}{β β':av}{w w':World}
theorem R.lift{d:D}{v:Value}(h:R F fw w d v)(hf:∀ b,¬ F b->¬ F' b/\β.free b):R F' β w d v:=
 h.gen (a6 _) (fun b _ h1 _=>⟨ll.refl w b,(hf b h1).2,(hf b h1).1⟩) fun i p _ hp=>by cases hp
theorem uy{b:Nat}(h:¬ owned F β b):¬ F b/\β.free b:=by
 unfold owned at h;have h1:¬ F b:=fun e=>h (.inl e);refine⟨h1,?_⟩;by_cases hb:β.free b
 .exact hb
 .exact absurd (.inr hb) h
theorem aai(hm:ax P F m β w){b:Nat}(h:owned F β b):b<w.heap.size:=by
 rcases h with h|h
 .exact hm.fb.lt b h
 .unfold av.free at h;simp only[Classical.not_forall] at h;obtain⟨i,p,hp,hb⟩:=h;exact hm.lt i p b hp (Decidable.not_not.1 hb)
theorem IZ(hm:ax P F m β w):FB (owned F β) w:=hm.fb.next (fun b hb=>aai hm hb) (fun _ h=>.inl h) fun _ _ _=>rfl
theorem JY{d:D}{v:Value}(hs:d.gL=true)(h:R F β w d v):R F' β' w' d v:=by
 have aT:∀ cs:List D,(∀ d∈cs,∃ x,d=.s x)->R F β w (.aT cs) v->R F' β' w' (.aT cs) v:=fun cs hc h=>by
  obtain⟨vs,rfl,hl,hr⟩:=h.zD;refine .aT cs vs hl fun k d u hk hu=>?_;obtain⟨x,rfl⟩:=hc d (cX hk);have:=(hr k _ u hk hu).cm;rw[this.1];exact .s x this.2
 unfold D.gL at hs;split at hs
 .rw[h.cm.1];exact .s _ h.cm.2
 .obtain⟨b,rfl⟩:=h.B3;exact .ub b
 .exact aT _ oS h
 .exact aT _ oS h
 .exact aT _ oS h
 .cases hs
theorem O1(h:Kept w w'):Step β w β w':=wY h.1 h.2.1 h.2.2
theorem ax.kept(hm:ax P F m β w)(h:Kept w w'):ax P F m β w':=hm.ext h.1 h.2.1 h.2.2
theorem O2(hm:ax P F m β w){f:FuncId}{args:List D}{r:D}{vs:Array Value}(hc:aG P f args r)(hR:Rs F β w args vs):
 Calls P f vs w fun e w'=>∃ v,e=.returned v/\R F β w' r v/\ax P F m β w'/\Step β w β w':=
 (hc.2.2 (owned F β) w vs (IZ hm) ⟨hR.1,fun k d v hd hv=>hc.2.1 d (cX hd) F β w v (hR.2 k d v hd hv)⟩).mono
  fun e w' ⟨v,he,hr,hk⟩=>⟨v,he,hr.lift fun b hb=>uy hb,hm.kept hk,O1 hk⟩
theorem F7{a7:List Nat}(C:∀ i∈a7,∀ r,m i=some r->∃ p,β i=some p/\cx P F β w r p/\∀ b,p.bA=some b->¬ F b):∀ {aS bs:List D},jM P a7 m aS bs->aS.length=bs.length/\∀ (k:Nat) (a b:D),aS[k]? =some a->bs[k]? =some b->∀ v,R F β w a v->R F fw w b v
 |[],[],_=>⟨rfl,oS⟩
 |a::aS,b::bs,h=>by
  obtain⟨h1,h2⟩:=F7 C h.2;refine⟨by simp[h1],fun k x y hx hy v hv=>?_⟩;cases k with
  |zero=>
   simp at hx hy;subst hx;subst hy;exact h.1 F β w v C hv
  |succ k=>exact h2 k x y (by simpa using hx) (by simpa using hy) v hv
 |[],_::_,h=>h.elim
 |_::_,[],h=>h.elim
def KD(r:D):Prop:=∀ (F F':Nat->Prop) (β β':av) (w w':World) (v:Value),R F β w r v->R F' β' w' r v
theorem X5{r:D}(h:r.gL=true):KD r:=fun _ _ _ _ _ _ _=>JY h
theorem O3(hm:ax P F m β w){f:FuncId}{args J:List D}{a7:List Nat}{C:Mem}{r:D}{vs:Array Value}(U:jM P a7 C args J)(O:∀ i∈a7,C i≠none->m i=C i)(hc:aG P f J r)(hs:KD r)(hR:Rs F β w args vs):
 Calls P f vs w fun e w'=>∃ v,e=.returned v/\R F β w' r v/\ax P F m β w'/\Step β w β w':=by
 obtain⟨h1,h2⟩:=F7 (P:=P) (F:=F) (β:=β) (w:=w) (fun i hi r hr=>by
  obtain⟨p,hp,af⟩:=hm.row i r (by rw[O i hi (by simp[hr])];exact hr)
  exact⟨p,hp,af,fun b hb=>hm.nf i p b hp hb⟩) U
 refine(hc.2.2 F w vs hm.fb ⟨by rw[hR.1,h1],fun k d v hd hv=>?_⟩).mono fun e w' ⟨v,he,hr,hk⟩=>⟨v,he,hs _ _ _ _ _ _ _ hr,hm.kept hk,O1 hk⟩
 have ag:k<args.length:=by rw[h1];exact(bU.1 hd).1
 exact h2 k args[k] d (by simp[ag]) hd v (hR.2 k args[k] v (by simp[ag]) hv)
theorem aaj(hm:ax P F m β w)(hn:β nx=none){f:FuncId}{args es:List D}{n:Nat}{t:TypeId}{vs:Array Value}(hc:gC P f args es n t)(hR:Rs F β w args vs):
 Calls P f vs w fun e w'=>∃ v β',e=.returned v/\R F β' w' (.rs nx 0 n) v/\ax P F (up m nx (some (.cells es t))) β' w'/\Step β w β' w'/\∀ i,i≠nx->β' i=β i:=by
 refine(hc.2.2 (owned F β) w vs (IZ hm) ⟨hR.1,fun k d v hd hv=>hc.2.1 d (cX hd) F β w v (hR.2 k d v hd hv)⟩).mono ?_;rintro e w' ⟨v,p,he,KE,J,af,hv,hk⟩;have gn:=hm.kept hk
 have hs:Step β w (up β nx (some p)) w':=by
  refine⟨hk.1,fun b hb hf=>⟨hk.2.1 b hb,fun i q hq=>?_⟩,fun i q hq=>.inl ?_,hk.2.2,fun _ r _ _=>BR (hk.2.1 r)⟩
  .by_cases hi:i=nx
   .subst hi;rw[ai] at hq;cases hq;intro e;have:=(J b e).1;omega
   .rw[aA _ _ hi] at hq;exact hf i q hq
  .rw[aA _ _ (fun e=>by rw[e,hn] at hq;cases hq)];exact hq
 have C:∀ i q b,up β nx (some p) i=some q->q.bA=some b->(i=nx/\q=p)\/(i≠nx/\β i=some q):=fun i q b hq _=>by
  by_cases hi:i=nx
  .subst hi;rw[ai] at hq;cases hq;exact .inl ⟨rfl,rfl⟩
  .rw[aA _ _ hi] at hq;exact .inr ⟨hi,hq⟩
 have U:∀ b,¬ (owned F β b\/p.bA=some b)->¬ F b/\av.free (up β nx (some p)) b:=fun b hb=>by
  have h1:=uy (F:=F) (β:=β) (b:=b) (fun e=>hb (.inl e));refine⟨h1.1,fun i q hq e=>?_⟩;rcases C i q b hq e with⟨_,rfl⟩|⟨_,fp⟩
  .exact hb (.inr e)
  .exact h1.2 i q fp e
 have KF:cx P F (up β nx (some p)) w' (.cells es t) p:=by
  cases af with
  |nil _=>exact .nil _
  |cells _ _ b o room sz c h1 h2 h3 h4 h5=>
   refine .cells es t b o room sz c h1 h2 h3 h4 fun k d hd=>?_;obtain⟨u,oZ,o0,o6⟩:=h5 k d hd;exact⟨u,oZ,o0.lift U,o6⟩
 refine⟨v,up β nx (some p),he,?_,?_,hs,fun i hi=>aA _ _ hi⟩
 .cases hv with
  |js _ _ _ _ h _=>rw[ai] at h;cases h;exact absurd rfl KE
  |gu _ a h=>rw[ai] at h;cases h;exact .gu nx a (ai _ _ _)
  |ir _ _ a b o len room sz h=>rw[ai] at h;cases h;exact .ir nx 0 a b o len room sz (ai _ _ _)
  |rs _ _ _ cap b o len room sz h h1 h2 h3 h4=>rw[ai] at h;cases h;exact .rs nx 0 n cap b o len room sz (ai _ _ _) h1 h2 h3 h4
 .refine⟨fun i r hi=>?_,fun i j q q' b hq fp e O=>?_,fun i q b hq e=>?_,fun i q b hq e=>?_,gn.fb⟩
  .by_cases X:i=nx
   .subst X;rw[ai] at hi;cases hi;exact⟨p,ai _ _ _,KF⟩
   .rw[aA _ _ X] at hi;obtain⟨q,hq,MH⟩:=hm.row i r hi;exact⟨q,by rw[aA _ _ X];exact hq,MH.step hs fun b hb=>hk.2.1 b (hm.lt i q b hq hb)⟩
  .rcases C i q b hq e with⟨rfl,rfl⟩|⟨hi,h1⟩<;>rcases C j q' b fp O with⟨rfl,rfl⟩|⟨hj,h2⟩
   .rfl
   .have:=(J b e).1;have:=hm.lt j q' b h2 O;omega
   .have:=(J b O).1;have:=hm.lt i q b h1 e;omega
   .exact hm.inj i j q q' b h1 h2 e O
  .rcases C i q b hq e with⟨_,rfl⟩|⟨_,h1⟩
   .exact(J b e).2
   .exact gn.lt i q b h1 e
  .rcases C i q b hq e with⟨_,rfl⟩|⟨_,h1⟩
   .intro hF;have:=hm.fb.lt b hF;have:=(J b e).1;omega
   .exact hm.nf i q b h1 e
theorem OB{o:Oper}{env:Env}{a:Act}{f:FuncId}{args:List D}(O:ez F β w env a)(ha:asks env o.op)(h:cV (aZ env o.op) o.op=some (f,args))(he:jU P f=true):
 ∃ vs,(execOp a.eval o).run P w=.ok (.enter f vs) w/\Rs F β w args vs:=by
 obtain⟨dst,op,type,pos,after,guard⟩:=o;simp only at ha h;cases op with
 |call c=>
  simp only[cV] at h;have hR:∀ x∈(Op.call c).operands.toList,R F β w (aZ env (.call c) x) (a.eval x):=fun x hx=>(O.opd x).uO _ (ha x hx);split at h
  .rename_i g hg;split at h
   .rename_i k fs cs hk;simp only[aH,bR] at h;obtain⟨rfl,rfl⟩:=h;have h1:=hR g (by simp[Op.operands,Call.operands,hg]);rw[hk] at h1;obtain⟨q1,U⟩:=zT (F:=F) (β:=β) (w:=w) (xs:=c.args) (ρ:=aZ env (.call c)) (a:=a) (fun x hx=>hR x (by simp[Op.operands,Call.operands];exact .inr hx));generalize hv:a.eval g=v at h1;cases h1 with
    |fn _ _ _ us vs hl jt hh J=>
    refine⟨us.toArray++c.args.map a.eval++vs.toArray,?_,?_,?_⟩
    .unfold execOp;simp only[resolve,hg,Sem.run_bind,hv,Deferred.ofValue,Sem.run_pure,Result.andThen_ok,invoke];unfold callFunc;unfold jU at he;simp only[Sem.run_bind,run_program,Result.andThen_ok];split at he
     .rename_i fn X;simp only[aw,Bool.not_eq_true'] at he
      have hb:fn.body.isNone=false:=by
       cases AS:fn.body<;>simp_all
      rw[X];simp only[he.1,hb,Bool.false_eq_true,if_false,Sem.run_pure]
     .cases he
    .simp[hl,jt]
    .intro j d u hd hu;simp only[List.append_assoc] at hd;simp only[Array.append_assoc] at hu;rcases Nat.lt_or_ge j fs.length with hj|hj
     .rw[List.getElem?_append_left hj] at hd;rw[Array.getElem?_append_left (by simpa[hl] using hj)] at hu;exact hh j d u hd (by simpa using hu)
     .rw[List.getElem?_append_right hj] at hd;rw[Array.getElem?_append_right (by simpa[hl] using hj)] at hu;simp only[List.size_toArray,hl] at hu;generalize j - fs.length=j' at hd hu;rcases Nat.lt_or_ge j' (c.args.toList.map (aZ env (.call c))).length with C|C
      .rw[List.getElem?_append_left C] at hd;rw[Array.getElem?_append_left (by simpa using C)] at hu;exact U j' d u hd (by simpa using hu)
      .rw[List.getElem?_append_right C] at hd;rw[Array.getElem?_append_right (by simpa using C)] at hu;exact J _ d u hd (by simpa using hu)
   .cases h
  .cases h
 |_=>simp[cV] at h
end
section
variable{P:Program}
theorem ab9{o:Op}{ρ C:Operand->D}(h:∀ x∈o.operands,C x=ρ x)(m:Mem)(nx:Nat):aM P o C m nx=aM P o ρ m nx:=by
 have O:∀ ps:Array (Nat×Operand),(∀ x∈ps.map (·.2),C x=ρ x)->
  (ps.toList.map fun q=>(q.1,C q.2))=(ps.toList.map fun q=>(q.1,ρ q.2)):=fun ps hp=>
  List.map_congr_left fun p hm=>by
   obtain⟨i,x⟩:=p;simp only[hp x (Array.mem_map.2 ⟨(i,x),by simpa using hm,rfl⟩)]
 have args:∀ xs:Array Operand,(∀ x∈xs,C x=ρ x)->xs.toList.map C=xs.toList.map ρ:=fun xs hx=>
  List.map_congr_left fun x hm=>hx x (by simpa using hm)
 cases o with
 |call c=>
  simp only[aM];cases hc:c.callee with
  |builtin b=>simp only[args c.args fun x hx=>h x (by simp[Op.operands,Call.operands,hc,hx])]
  |_=>rfl
 |build t ps=>simp only[aM,O ps fun x hx=>h x (by simpa[Op.operands] using hx)]
 |buildSlice t n ps=>simp only[aM,O ps fun x hx=>h x (by simpa[Op.operands] using hx)]
 |makeFunc f fs cs=>simp only[aM,args fs fun x hx=>h x (by simp[Op.operands,hx]),args cs fun x hx=>h x (by simp[Op.operands,hx])]
 |slice t x lo hi J=>
  have U:lo.map C=lo.map ρ:=by cases lo<;>simp_all[Op.operands]
  have e2:hi.map C=hi.map ρ:=by cases hi<;>simp_all[Op.operands]
  have e3:J.map C=J.map ρ:=by cases J<;>simp_all[Op.operands]
  simp only[aM,U,e2,e3,h x bB]
 |makeMap t r=>cases r<;>simp_all[aM,Op.operands]
 |_=>first|rfl|(simp only[Op.operands] at h;simp only[aM];simp_all)
theorem zm{o:Op}{ρ C:Operand->D}(h:∀ x∈o.operands,C x=ρ x):cV C o=cV ρ o:=by
 cases o with
 |call c=>
  simp only[cV];cases hc:c.callee with
  |value f=>
   have J:c.args.toList.map C=c.args.toList.map ρ:=List.map_congr_left fun x hm=>h x (by simp[Op.operands,Call.operands,hc];exact .inr (by simpa using hm));have e2:C f=ρ f:=h f (by simp[Op.operands,Call.operands,hc]);simp only[J,e2]
  |_=>rfl
 |_=>rfl
theorem QS{env env':Env}{x:Operand}(h:∀ t,x=.tmp t->env' t=env t):opd env' x=opd env x:=by
 cases x<;>simp_all[opd]
theorem uR{env env':Env}{o:Op}(h:∀ t,Operand.tmp t∈o.operands->env' t=env t):∀ x∈o.operands,aZ env' o x=aZ env o x:=fun x hx=>by
 have:=QS (env:=env) (env':=env') (x:=x) fun t ht=>h t (ht▸hx);unfold aZ;cases o<;>simp[this]
theorem wZ{env env':Env}{o:Op}(h:∀ t,Operand.tmp t∈o.operands->env' t=env t):asks env' o=asks env o:=by
 have hh:∀ x∈o.operands,opd env' x=opd env x:=fun x hx=>QS fun t ht=>h t (ht▸hx)
 have hl:(∀ x∈o.operands.toList,(opd env' x).ask)=(∀ x∈o.operands.toList,(opd env x).ask):=by
  apply propext;constructor
  .intro hq x hx;rw[<- hh x (by simpa using hx)];exact hq x hx
  .intro hq x hx;rw[hh x (by simpa using hx)];exact hq x hx
 unfold asks;split
 .rw[hh _ bB]
 .exact hl
theorem N1{m m':Mem}{sz:Nat}{d:D}{p:Prop}{rd:List Nat}{n:Nat}{cs:List D}(h:gY m sz d=some (p,rd,n,cs))(hr:∀ i∈rd,m' i=m i):gY m' sz d=some (p,rd,n,cs):=by
 unfold gY at*
 split at h
 .simpa using h
 .simpa using h
 .rename_i i off n';split at h
  .rename_i cs' e hm;simp only[aH,bR] at h;obtain⟨rfl,rfl,rfl,rfl⟩:=h;rw[hr i oS,hm]
  .cases h
 .cases h
theorem XI{m m':Mem}{t:TypeId}{x k:D}{ok:Bool}{e:cR}(h:mB P m t x k ok=some e)(hr:∀ i∈e.rd,m' i=m i):mB P m' t x k ok=some e:=by
 unfold mB at*
 split at h
 .split at h
  .rename_i hm;cases h;rw[hr _ oS,hm]
  .cases h
 .exact h
 .exact h
 .cases h
theorem Oi{m m':Mem}{t:TypeId}{x k v:D}{e:cR}(h:mC P m t x k v=some e)(hr:∀ i∈e.rd,m' i=m i):mC P m' t x k v=some e:=by
 unfold mC at*
 split at h
 .split at h
  .rename_i hm;cases h;rw[hr _ oS,hm]
  .cases h
 .cases h
theorem XJ{m m':Mem}{t:TypeId}{x k:D}{e:cR}(h:sZ P m t x k=some e)(hr:∀ i∈e.rd,m' i=m i):sZ P m' t x k=some e:=by
 unfold sZ at*
 split at h
 .split at h
  .rename_i hm;cases h;rw[hr _ oS,hm]
  .cases h
 .cases h
theorem ab'{o:Op}{ρ:Operand->D}{m m':Mem}{nx:Nat}{e:cR}(h:aM P o ρ m nx=some e)(hr:∀ i∈e.rd,m' i=m i):aM P o ρ m' nx=some e:=by
 cases o with
 |call c=>
  simp only[aM] at h ⊢;split at h
  .rename_i b hb;split at h
   .rename_i U;rw[if_pos U];unfold dS at h ⊢;split at h
    .unfold kJ at h ⊢;split at h<;>try exact h
     split at h
     .rename_i hm;cases h;rw[hr _ oS,hm]
     .cases h
    .split at h
     .unfold py at h ⊢;simp only at h ⊢;split at h
      .cases h
      .rename_i hc;split at h
       .cases h;rw[N1 hc hr];simp_all
       .split at h
        .rename_i hm;cases h;rw[N1 hc fun i hi=>hr i (by simp[hi])];rw[hr _ oS,hm];simp_all
        .cases h
       .cases h
     .cases h
    .exact h
    .split at h
     .rename_i hm;cases h;rw[hr _ oS,hm]
     .cases h
    .exact XJ h hr
    .cases h
   .cases h
  .cases h
 |lookup t x k ok=>exact XI h hr
 |mapUpdate t x k v=>exact Oi h hr
 |insert t x k v=>exact Oi h hr
 |slice t x lo hi X=>
  simp only[aM] at h ⊢;unfold kz at h ⊢;split at h
  .exact h
  .split at h
   .rename_i hm;split at h
    .cases h;rw[hr _ oS,hm]
    .cases h
   .cases h
  .exact h
  .cases h
 |binOp op t x y _=>
  simp only[aM] at h ⊢;split at h
  .rename_i O he;simp only[aH] at h;subst h
   have:jZ P m' op t (ρ x) y=some O:=by
    unfold jZ at he ⊢;split at he
    .exact he
    .split at he
     .rename_i hm;cases he;rw[hr _ oS,hm]
     .cases he
    .split at he
     .rename_i hm;cases he;rw[hr _ oS,hm]
     .cases he
    .cases he
   rw[this]
  .rename_i he;by_cases J:∃ i off,ρ x=.rp i off
   .obtain⟨i,off,C⟩:=J;rw[C] at h;simp[oO] at h
   .have:jZ P m' op t (ρ x) y=none:=by
     unfold jZ at he ⊢;split at he
     .cases he
     .rename_i i off C;exact absurd ⟨_,_,C⟩ J
     .rename_i i off C;exact absurd ⟨_,_,C⟩ J
     .simp_all
    rw[this];exact h
 |_=>
  first
  |exact h
  |(simp only[aM] at h ⊢
    repeat' split at h
    all_goals first
     |(cases h;done)
     |exact h
     |(cases h;simp_all;done)
     |(simp_all;done))
end
end Go.Abs
namespace Go.Abs
open Go.ChangeShapes Go.WideShapes
inductive Sh
 |int (k:IntKind)
 |bool
 |str
 |sl (s:Sh)
 |unit
 |pair (a b:Sh)
def Sh.val:Sh->Type
 | .int _=>Int
 | .bool=>Bool
 | .str=>ByteArray
 | .sl s=>List s.val
 | .unit=>Unit
 | .pair a b=>a.val×b.val
def Sh.size:Sh->Nat
 | .unit=>0
 | .pair a b=>a.size+b.size
 |_=>1
def Sh.enc:(s:Sh)->s.val->List D
 | .int k,n=>[.s (.int k n)]
 | .bool,b=>[.s (.bool b)]
 | .str,b=>[.s (.string b)]
 | .sl s,l=>[.sl (List.flatMap s.enc l) (List.length l)]
 | .unit,_=>[]
 | .pair a b,x=>a.enc x.1++b.enc x.2
def Sh.ra:Sh->Bool
 | .int .u64=>false
 | .sl s=>s.ra
 | .pair a b=>a.ra&&b.ra
 |_=>true
def Sh.arg:(s:Sh)->s.val->D
 | .int k,n=>.s (.int k n)
 | .bool,b=>.s (.bool b)
 | .str,b=>.s (.string b)
 | .sl s,l=>.sl (List.flatMap s.enc l) (List.length l)
 | .unit,_=>.agg []
 | .pair a b,x=>.agg (a.enc x.1++b.enc x.2)
def Sh.ok:(s:Sh)->s.val->Prop
 | .int k,n=>(Lit.int k n).wf=true
 | .bool,_=>True
 | .str,b=>ByteArray.size b<=maxLen
 | .sl s,l=>∀ x:s.val,List.Mem x l->s.ok x
 | .unit,_=>True
 | .pair a b,x=>a.ok x.1/\b.ok x.2
theorem Sh.BB:∀ (s:Sh) (x:s.val),(s.enc x).length=s.size
 | .int _,_ | .bool,_ | .str,_ | .sl _,_ | .unit,_=>rfl
 | .pair a b,x=>by simp[Sh.enc,Sh.size,Sh.BB a,Sh.BB b]
section
variable(P:Program)
def vY(C:TypeId->Option Sh):Nat->List Field->Option Sh
 |_,[]=>some .unit
 |off,f::fs=>if f.offset=off then match C f.type,vY C (off+P.cellsOf f.type) fs with
  |some a,some b=>some (.pair a b)
  |_,_=>none
  else none
def sL:Nat->TypeId->Option Sh
 |0,_=>none
 |n+1,t=>match P.underlying t with
  |some .bool=>if P.cellsOf t=1 then some .bool else none
  |some (.int k)=>if P.cellsOf t=1 then some (.int k) else none
  |some .string=>if P.cellsOf t=1 then some .str else none
  |some (.slice e)=>if P.cellsOf t=1/\0<P.cellsOf e then(sL n e).map .sl else none
  |some (.struct fs)=>match vY P (sL n) 0 fs.toList with
   |some s=>if s.size=P.cellsOf t then some s else none
   |none=>none
  |_=>none
end
section
variable{P:Program}{H:Type}{ec:TypeId×Value->H}{w:World}{base:Nat}{spare:Nat->Bool}{held:Bool}{F:Nat->Prop}
def Holds(F:Nat->Prop)(w:World)(ds:List D)(cs:List Value):Prop:=ds.length=cs.length/\∀ (k:Nat) (d:D) (u:Value),ds[k]? =some d->cs[k]? =some u->R F fw w d u/\u.oneCell'=true
theorem Holds.app{ds C:List D}{cs cs':List Value}(h:Holds F w ds cs)(h':Holds F w C cs'):Holds F w (ds++C) (cs++cs'):=by
 refine⟨by simp[h.1,h'.1],fun k d u hd hu=>?_⟩;by_cases hk:k<ds.length
 .rw[List.getElem?_append_left hk] at hd;rw[List.getElem?_append_left (by have:=h.1;omega)] at hu;exact h.2 k d u hd hu
 .rw[List.getElem?_append_right oG] at hd;rw[List.getElem?_append_right (by have:=h.1;omega), <- h.1] at hu;exact h'.2 (k - ds.length) d u hd hu
theorem Holds.one{d:D}{u:Value}(h:R F fw w d u)(h':u.oneCell'=true):Holds F w [d] [u]:=⟨rfl,fun k d' C hd hu=>by
 cases k with
 |zero=>simp at hd hu;subst hd hu;exact⟨h,h'⟩
 |succ k=>simp at hd⟩
theorem Holds.nil:Holds F w [] []:=⟨rfl,oS⟩
theorem QD{C:TypeId->Option Sh}{off:Nat}{s:Sh}(h:vY P C off []=some s):s=.unit:=by
 simp only[vY,aH] at h;exact h.symm
theorem PR{C:TypeId->Option Sh}{off:Nat}{f:Field}{fs:List Field}{s:Sh}(h:vY P C off (f::fs)=some s):
 f.offset=off/\∃ a b,C f.type=some a/\vY P C (off+P.cellsOf f.type) fs=some b/\s=.pair a b:=by
 simp only[vY] at h;split at h
 .rename_i J;split at h
  .rename_i a b ha hb;simp only[aH] at h;exact⟨J,a,b,ha,hb,h.symm⟩
  .cases h
 .cases h
theorem Ey:∀ (n:Nat) (t:TypeId) (s:Sh),sL P n t=some s->s.size=P.cellsOf t
 |0,_,_,h=>by cases h
 |n+1,t,s,h=>by
  unfold sL at h;split at h
  .split at h
   .rename_i h1;simp only[aH] at h;subst h;exact h1.symm
   .cases h
  .split at h
   .rename_i h1;simp only[aH] at h;subst h;exact h1.symm
   .cases h
  .split at h
   .rename_i h1;simp only[aH] at h;subst h;exact h1.symm
   .cases h
  .split at h
   .rename_i h1;simp only[cN] at h;obtain⟨a,_,rfl⟩:=h;exact h1.1.symm
   .cases h
  .split at h
   .split at h
    .rename_i h1;simp only[aH] at h;subst h;exact h1
    .cases h
   .cases h
  .cases h
def Reads(P:Program)(F:Nat->Prop)(w:World)(C:TypeId->Option Sh)(rd:TypeId->List Value->Option (DataW H×List MemPlace)):Prop:=
 ∀ t s cs x,C t=some s->s.ra=true->cs.length=P.cellsOf t->rd t cs=some x->∃ v:s.val,s.ok v/\Holds F w (s.enc v) cs
theorem KB:∀ (s:Sh) (x:s.val),s.ra=true->∀ d∈s.enc x,∀ n:Int,¬ R F fw w d (.int .u64 n)
 | .int k,x,h,d,hd,n,hr=>by
  simp only[Sh.enc,List.mem_singleton] at hd;subst hd;cases hr;cases h
 | .bool,x,h,d,hd,n,hr=>by
  simp only[Sh.enc,List.mem_singleton] at hd;subst hd;cases hr
 | .str,x,h,d,hd,n,hr=>by
  simp only[Sh.enc,List.mem_singleton] at hd;subst hd;cases hr
 | .sl s,x,h,d,hd,n,hr=>by
  simp only[Sh.enc,List.mem_singleton] at hd;generalize List.flatMap s.enc x=es at hd;generalize List.length x=k at hd;subst hd;cases hr
 | .unit,x,h,d,hd,n,hr=>by simp[Sh.enc] at hd
 | .pair a b,x,h,d,hd,n,hr=>by
  simp only[Sh.ra,aw] at h;simp only[Sh.enc,List.mem_append] at hd;rcases hd with hd|hd
  .exact KB a x.1 h.1 d hd n hr
  .exact KB b x.2 h.2 d hd n hr
def Cv(F:Nat->Prop)(w:World):Prop:=∀ b o u,F b->w.cell? ⟨b,o,none⟩=some u->∃ n,u=.int .u64 n
theorem QF{J:TypeId->Option Sh}{rd:TypeId->List Value->Option (DataW H×List MemPlace)}(hz:∀ t s,J t=some s->s.size=P.cellsOf t)(h:Reads P F w J rd){cs:List Value}:∀ (fs:List Field) (off:Nat) (s:Sh),vY P J off fs=some s->s.ra=true->off+s.size<=cs.length->
 (∀ f∈fs,∃ x,rd f.type ((cs.drop f.offset).take (P.cellsOf f.type))=some x)->∃ v:s.val,s.ok v/\Holds F w (s.enc v) ((cs.drop off).take s.size)
 |[],off,s,hs,_,_,_=>by
  obtain rfl:=QD hs;exact⟨(),trivial,by simp[Sh.enc,Sh.size,Holds]⟩
 |f::fs,off,s,hs,hn,hl,hr=>by
  obtain⟨X,a,b,ha,hb,rfl⟩:=PR hs;simp only[Sh.ra,aw] at hn;obtain⟨x,hx⟩:=hr f oS;have jt:off+(a.size+b.size)<=cs.length:=hl;have br:=hz _ _ ha;rw[X] at hx;obtain⟨v,U,hv⟩:=h f.type a _ x ha hn.1 (by simp only[List.length_take,List.length_drop];omega) hx;rw[<- br] at hb hv;obtain⟨O,C,yE⟩:=QF hz h fs (off+a.size) b hb hn.2 oG fun g hg=>hr g (by simp[hg]);refine⟨(v,O),⟨U,C⟩,?_⟩;have:=hv.app yE;show Holds F w (a.enc v++b.enc O) ((cs.drop off).take (a.size+b.size));rw[List.take_add,List.drop_drop];exact this
theorem IX{a:Addr}{n:Nat}{cs:List Value}(h:w.cells? base a n=some cs):cs.length=n/\∀ k,k<n->w.cell? (a.add k)=cs[k]? /\k<cs.length:=by
 unfold World.cells? at h;split at h
 .have hl:cs.length=n:=by simpa using mapM_some_length h
  exact⟨hl,fun k hk=>⟨mapM_some_get h k k (by simp[hk]),oG⟩⟩
 .cases h
theorem Oz{α β:Type}{p:Nat->α->β->Prop}:∀ (n:Nat) (l:Nat->α),(∀ i,i<n->∃ y,p i (l i) y)->∃ ys:List β,ys.length=n/\∀ i (h:i<n) y,ys[i]? =some y->p i (l i) y
 |0,_,_=>⟨[],rfl,fun i h=>by omega⟩
 |n+1,l,h=>by
  obtain⟨ys,h1,h2⟩:=Oz n l fun i hi=>h i oG;obtain⟨y,hy⟩:=h n oG;refine⟨ys++[y],by simp[h1],fun i hi z hz=>?_⟩;by_cases C:i<n
  .rw[List.getElem?_append_left oG] at hz;exact h2 i C z hz
  .have:i=n:=by omega
   subst this;rw[List.getElem?_append_right oG] at hz;simp[h1] at hz;subst hz;exact hy
theorem Jl{α:Type}{f:α->List D}{sz:Nat}(hs:∀ x,(f x).length=sz):∀ (l:List α) (i j:Nat),j<sz->(l.flatMap f)[i*sz+j]? =(l[i]?).bind fun x=>(f x)[j]?
 |[],i,j,_=>by simp
 |x::l,0,j,h=>by simp[List.getElem?_append_left (show j<(f x).length by rw[hs];exact h)]
 |x::l,i+1,j,h=>by
  rw[List.flatMap_cons,List.getElem?_append_right (by rw[hs,Nat.add_mul];omega)];have:(i+1)*sz+j - (f x).length=i*sz+j:=by rw[hs,Nat.add_mul];omega
  rw[this,Jl hs l i j h];simp
theorem JV(hF:Cv F w):∀ (eA n:Nat),Reads P F w (sL P n) (DataW.trod ec P w base spare held eA)
 |eA,0,t,s,cs,x,h,_,_,_=>by cases h
 |eA,n+1,t,s,cs,x,h,rk,hl,hr=>by
  have br:=Ey _ _ _ h;unfold sL at h;split at h
  .rename_i ht;split at h
   .simp only[aH] at h;subst h;obtain⟨b,rfl,_⟩:=DataW.trod_bool ht hr;exact⟨b,trivial,.one (.s _ rfl) rfl⟩
   .cases h
  .rename_i k ht;split at h
   .simp only[aH] at h;subst h;obtain⟨b,rfl,_,hw⟩:=DataW.trod_int ht hr;exact⟨b,hw,.one (.s _ rfl) rfl⟩
   .cases h
  .rename_i ht;split at h
   .simp only[aH] at h;subst h;obtain⟨b,rfl,_,hw⟩:=DataW.trod_string ht hr;exact⟨b,hw,.one (.s _ rfl) rfl⟩
   .cases h
  .rename_i e ht;split at h
   .rename_i hc;simp only[cN] at h;obtain⟨a,ha,rfl⟩:=h;have haz:=Ey _ _ _ ha;rcases DataW.trod_slice ht hr with⟨rfl,_⟩|⟨ad,len,cap,Ue,rest,U,rfl,rfl,_,hb,hlc,hm,hlen,DP,_,_⟩
    .exact⟨([]:List a.val),(fun x h=>nomatch h),.one (by exact .gR none 0) rfl⟩
    .have Vz:∀ i,i<len->∃ C:List Value,w.cells? base (ad.add (i*P.cellsOf e)) (P.cellsOf e)=some C/\∃ y,DataW.trod ec P w base spare held U e C=some y:=fun i hi=>by
      have:=DP i hi;have hg:Ue[i]? =some Ue[i]:=by simp[hlen,hi]
      rw[hg,Option.bind_eq_some_iff] at this;obtain⟨C,h1,h2⟩:=this;exact⟨C,h1,_,h2⟩
     have CX:∀ i,i<len->∃ v:a.val,a.ok v/\∃ C,w.cells? base (ad.add (i*P.cellsOf e)) (P.cellsOf e)=some C/\Holds F w (a.enc v) C:=fun i hi=>by
      obtain⟨C,h1,y,h2⟩:=Vz i hi;obtain⟨v,DW,hv⟩:=JV hF U n e a C y ha rk (IX h1).1 h2;exact⟨v,DW,C,h1,hv⟩
     obtain⟨vs,pV,HG⟩:=Oz (p:=fun(i:Nat) (_:Nat) (v:a.val)=>a.ok v/\∃ C,w.cells? base (ad.add (i*P.cellsOf e)) (P.cellsOf e)=some C/\Holds F w (a.enc v) C) len (fun i=>i) CX
     have ajy:∀ x:a.val,x∈vs->a.ok x:=fun x hm=>by
      obtain⟨i,hx⟩:=fI hm;exact(HG i (by have:=(bU.1 hx).1;omega) x hx).1
     cases len with
     |zero=>
      have:vs=[]:=List.length_eq_zero_iff.1 pV;subst this;exact⟨([]:List a.val),(fun x h=>nomatch h),.one (by exact .gR _ cap) rfl⟩
     |succ l=>
      obtain⟨C,h0,_⟩:=Vz 0 oG;have yQ:=(IX h0).2 0 hc.2;simp only[Nat.zero_mul,Addr.add,if_true] at yQ;obtain⟨b,o,sp⟩:=ad;have Gf:∃ u,w.cell? ⟨b,o,sp⟩=some u:=⟨C[0],by rw[yQ.1];simp[yQ.2]⟩
      obtain⟨u0,J⟩:=Gf;unfold World.cell? at J
      have lC:b<w.heap.size:=by
       cases hh:w.heap[b]? with
       |none=>rw[hh] at J;cases J
       |some x=>exact(Array.getElem?_eq_some_iff.1 hh).1
      have HJ:sp=none:=by
       cases sp with
       |none=>rfl
       |some q=>
        simp only at J;split at J
        .simp at J
        .cases J
      subst HJ
      have ajz:∀ i j,((⟨b,o,none⟩:Addr).add i).add j=⟨b,o+(i+j),none⟩:=fun i j=>by
       unfold Addr.add;split<;>split<;>simp_all;omega
      have hk:∀ k d,(vs.flatMap a.enc)[k]? =some d->∃ u,w.cell? ⟨b,o+k,none⟩=some u/\R F fw w d u/\u.oneCell'=true:=fun k d hd=>by
       have X:0<a.size:=by omega
       have pd:k / a.size*a.size+k % a.size=k:=by rw[Nat.mul_comm];exact Nat.div_add_mod k a.size
       have wB:=Nat.mod_lt k X;rw[<- pd,Jl a.BB _ _ _ wB,Option.bind_eq_some_iff] at hd;obtain⟨x,hx,hd⟩:=hd
       have hi:k / a.size<l+1:=by
        have:=(bU.1 hx).1;omega
       obtain⟨_,C,hci,hho⟩:=HG _ hi x hx;obtain⟨h1,h2⟩:=(IX hci).2 (k % a.size) oG;rw[ajz, <- haz,pd] at h1;refine⟨C[k % a.size],by rw[h1];simp[h2],hho.2 _ d _ hd (by simp[h2])⟩
      have ug:¬ F b:=fun hb=>by
       obtain⟨x0,NF⟩:∃ x0,vs[0]? =some x0:=⟨_,bx (show 0<vs.length by omega)⟩
       have X:0<a.size:=by omega
       obtain⟨O,kU⟩:∃ O,(vs.flatMap a.enc)[0]? =some O:=by
        have:=Jl a.BB vs 0 0 X;rw[Nat.zero_mul,Nat.zero_add,NF] at this;rw[this];exact⟨_,bx (by rw[a.BB];exact X)⟩
       obtain⟨u,h1,h2,_⟩:=hk 0 O kU;obtain⟨q,rfl⟩:=hF _ _ _ hb h1;obtain⟨x1,hx1,gg⟩:=List.mem_flatMap.1 (cX kU);exact KB a x1 rk O gg q h2
      refine⟨vs,fun x h=>ajy x h,.one (by
       have Dw:(List.length vs)=l+1:=pV;show R _ _ _ (.sl (List.flatMap a.enc vs) (List.length vs)) _;rw[Dw];refine .sl _ _ b o cap (fun k=>(w.cell? ⟨b,o+k,none⟩).getD undef) ug (fun _ _ h=>by cases h) lC hlc hm (fun k gU=>?_) fun k d hd=>?_
       .obtain⟨u,h1,_,h3⟩:=hk k _ (bx gU);simp[h1,h3]
       .obtain⟨u,h1,h2,_⟩:=hk k d hd
        simpa[h1] using h2) rfl⟩
   .cases h
  .rename_i fs ht;obtain⟨xs,U,rfl,_,_,Df,wm⟩:=DataW.trod_struct ht hr;split at h
   .rename_i s' dM;split at h
    .rename_i hs;simp only[aH] at h;subst h
     obtain⟨v,DW,hv⟩:=QF (P:=P) (w:=w) (fun t s=>Ey n t s) (JV hF U n) (cs:=cs) fs.toList 0 s' dM rk oG fun f hf=>by
      obtain⟨i,hi,rfl⟩:=Array.getElem_of_mem (Array.mem_toList_iff.1 hf);have:=wm i fs[i] (by simp[hi]);exact⟨xs[i],by rw[this];simp[Df,hi]⟩
     refine⟨v,DW,?_⟩;rw[List.drop_zero,dR oG] at hv;exact hv
    .cases h
   .cases h
  .cases h
theorem ahb(hF:Cv F w){r:Reach}{b0:Nat}{t:TypeId}{v:Value}{d:DataW H}{ps:List MemPlace}{n:Nat}{s:Sh}(hs:sL P n t=some s)(rk:s.ra=true)(hv:Value.okWide P w r b0 t v)(hd:DataW.Trod ec P w base spare held t v d ps):
 ∃ x:s.val,s.ok x/\R F fw w (s.arg x) v:=by
 cases n with
 |zero=>cases hs
 |succ n=>
  obtain⟨eA,hf⟩:=hd;have hz:=Ey _ _ _ hs;have key:v.cells.toList.length=P.cellsOf t->∃ x:s.val,s.ok x/\Holds F w (s.enc x) v.cells.toList:=fun hl=>JV hF eA (n+1) t s _ _ hs rk hl hf;unfold sL at hs;split at hs
  .rename_i ht;obtain⟨b,rfl⟩:=okWide_bool ht hv;split at hs
   .simp only[aH] at hs;subst hs;exact⟨b,trivial,.s _ rfl⟩
   .cases hs
  .rename_i k ht;obtain⟨b,rfl⟩:=okWide_int ht hv;split at hs
   .simp only[aH] at hs;subst hs;obtain⟨c,hc,_,J⟩:=DataW.trod_int ht hf;simp[Value.cells] at hc;subst hc;exact⟨b,J,.s _ rfl⟩
   .cases hs
  .rename_i ht;obtain⟨b,rfl⟩:=okWide_string ht hv;split at hs
   .simp only[aH] at hs;subst hs;obtain⟨c,hc,_,J⟩:=DataW.trod_string ht hf;simp[Value.cells] at hc;subst hc;exact⟨b,J,.s _ rfl⟩
   .cases hs
  .rename_i e ht;obtain⟨a,len,cap,rfl⟩:=okWide_slice ht hv;split at hs
   .rename_i h1;simp only[cN] at hs;obtain⟨q,_,rfl⟩:=hs;obtain⟨x,O,hx⟩:=key h1.1.symm;exact⟨x,O,(hx.2 0 _ _ rfl rfl).1⟩
   .cases hs
  .rename_i fs ht;obtain⟨cs,rfl,br⟩:=okWide_struct ht hv;obtain⟨x,O,hx⟩:=key (by simpa[Value.cells] using br);refine⟨x,O,?_⟩
   have ha:s.arg x=.agg (s.enc x):=by
    split at hs
    .rename_i s' C;split at hs
     .simp only[aH] at hs;subst hs;cases U:fs.toList with
      |nil=>
       rw[U] at C;obtain rfl:=QD C;rfl
      |cons f X=>
       rw[U] at C;obtain⟨_,a,b,_,_,rfl⟩:=PR C;rfl
     .cases hs
    .cases hs
   rw[ha];have:=hx.1;simp only[Value.cells] at this hx;have e:cs=cs.toList.toArray:=by simp
   rw[e];exact .agg _ cs.toList this.symm fun k d v h1 h2=>(hx.2 k d v h1 h2).1
  .cases hs
theorem Jm{α β:Type}(f:α->β):∀ l:List α,(l.flatMap fun x=>[f x])=l.map f
 |[]=>rfl
 |x::l=>by rw[List.flatMap_cons,Jm f l];rfl
theorem D6{α β γ:Type}{f:α->List γ}{g:β->List γ}{h:α->β}(he:∀ x,f x=g (h x)):∀ l:List α,l.flatMap f=(l.map h).flatMap g
 |[]=>rfl
 |x::l=>by rw[List.flatMap_cons,List.map_cons,List.flatMap_cons,he,D6 he l]
end
end Go.Abs
namespace Go.Abs
abbrev Fe(r:Option Nat):Fence:={ fn:=fun _=>True,depth:=none,alive:=false,round:=r }
theorem Em{r:Option Nat}{n:Nat}{P:Program}{f:FuncId}{args:Array Value}{w:World}{R:Ending->World->Prop}(h:Calls P f args w R):CallsIn (Fe r) n P f args w R:=
 (callsIn_wide.2 h:CallsIn Fence.wide n P f args w R)
def gk(r:Option Nat)(n:Nat)(P:Program)(ops:Array Oper)(QX:Exit->Act->World->Prop)(o:Oper)(K:Act->World->Prop)(a:Act)(w:World):Prop:=
 if Region.wanted o (yielded ops a.tmps) then o.wpIn (Fe r) n P a w K QX else(∀ f,o.about P w a.eval=some f->(Fe r).fn f)/\K (a.put o.dst undef) w
section
variable{P:Program}{ops:Array Oper}
theorem zd{r:Option Nat}{n:Nat}{QX:Exit->Act->World->Prop}{i:Nat}{o:Oper}(hi:ops[i]? =some o){K:Act->World->Prop}{a:Act}{w:World}(h:gk r n P ops QX o K a w):
 wpOpIn (Fe r) n P ops QX i K a w:=by
 unfold wpOpIn;simp only[hi];exact h
structure aY where
 val:D
 aL:List (Nat×Option Row):=[]
 rd:List Nat:=[]
 new:Nat:=0
def aY.wr(p:aY):List Nat:=p.aL.map (·.1)
def aY.Ok(P:Program)(ops:Array Oper)(o:Oper)(st:St)(p:aY):Prop:=
 ∀ (F:Nat->Prop) (β:av) (w:World) (a:Act) (m:Mem) (env:Env) (N:Nat),(∀ t∈o.looksAt ops,env t=st.env t)->ez F β w env a->ax P F m β w->
  (∀ i∈p.rd,st.mem i≠none->m i=st.mem i)->(∀ i,st.nx<=i->i<st.nx+p.new->β i=none)->(∀ i,N<=i->β i=none)->
  ∀ (r:Option Nat) (n:Nat) (QX:Exit->Act->World->Prop) (K:Act->World->Prop),
   (∀ v w' β',R F β' w' p.val v->ax P F (bT m p.aL) β' w'->Step β w β' w'->(∀ i,β i=none->(i<st.nx\/st.nx+p.new<=i)->β' i=none)->K (a.put o.dst v) w')->
   gk r n P ops QX o K a w
structure aY.lW(p:aY)(k:Nat)(st:St):Prop where
 wr:∀ i∈p.wr,st.mem i≠none\/(st.nx<=i/\i<st.nx+p.new)
 k0:k=0->p.rd=[]/\p.aL=[]
 k1:k=1->p.aL=[]
 k3:k=3->p.rd=[]/\∀ i∈p.wr,st.nx<=i
theorem xB{r:Option Nat}{o:Oper}(h:∀ c,o.op≠ .defer c)(ρ:Operand->Value):o.semAt r ρ=execOp ρ o:=Oper.semAt_eq r ρ o h
theorem aci{F:Nat->Prop}{β:av}{w:World}{env:Env}{a:Act}(O:ez F β w env a){j t:Nat}{b c:Bool}(ht:(ops[j]?).bind (·.dst)=some t)(hc:jC (env t) b=some c):
 (yielded ops a.tmps j==some b)=c:=by
 have h:=O t
 have hy:yielded ops a.tmps j=match a.tmps[t]? with|some (.bool b)=>some b|_=>none:=by
  unfold yielded;rw[ht];rfl
 have hq:∀ x:Value,a.tmps.getD t undef=x->x≠undef->a.tmps[t]? =some x:=fun x hx C=>by
  simp only[Array.getD_eq_getD_getElem?] at hx;cases hg:a.tmps[t]? with
  |none=>rw[hg] at hx;exact absurd hx.symm C
  |some y=>rw[hg] at hx;simpa using hx
 have hf:∀ {d:D},R F β w (.cu false d) (a.tmps.getD t undef)->c=false->(yielded ops a.tmps j==some b)=c:=fun {d} h U=>by
  generalize hv:a.tmps.getD t undef=v at h;cases h with
  |cu _ _ _ h1 h2=>
   have:=h2 rfl;rw[hy,U];simp only[Array.getD_eq_getD_getElem?] at hv;cases hg:a.tmps[t]? with
   |none=>simp
   |some y=>
    rw[hg] at hv;simp only[Option.getD_some] at hv;rw[hv,this];simp[undef]
 unfold jC at hc;split at hc
 .rename_i g X e;rw[e] at h;have:=h.cm.1;rw[hy,hq _ this (by simp[undef])];simpa using hc
 .rename_i _ J d e;rw[e] at h;cases J with
  |false=>
   refine hf h ?_;split at hc<;>simpa using hc.symm
  |true=>
   split at hc
   .generalize hv:a.tmps.getD t undef=v at h;cases h with
    |cu _ _ _ h1 h2=>
     have:=(h1 rfl).cm.1;rw[hy,hq _ (hv.trans this) (by simp[undef])];simpa using hc
   .simp at hc
 .cases hc
end
section
variable{P:Program}{ops:Array Oper}{o:Oper}{st:St}
theorem Xq{m:Mem}{sz:Nat}{d:D}{p:Prop}{rd:List Nat}{n:Nat}{cs:List D}(h:gY m sz d=some (p,rd,n,cs)):∀ i∈rd,m i≠none:=by
 unfold gY at h;split at h
 .cases h;simp
 .cases h;simp
 .split at h
  .rename_i hm;cases h;simp[hm]
  .cases h
 .cases h
theorem Ob{m:Mem}{t:TypeId}{x k:D}{ok:Bool}{e:cR}(h:mB P m t x k ok=some e):e.aL=[]/\e.new=0/\∀ i∈e.rd,m i≠none:=by
 unfold mB at h;split at h
 .split at h
  .rename_i hm;cases h;simp[hm]
  .cases h
 .cases h;simp
 .cases h;simp
 .cases h
theorem DZ{m:Mem}{t:TypeId}{x k v:D}{e:cR}(h:mC P m t x k v=some e):(∀ i∈e.aL.map (·.1),m i≠none)/\∀ i∈e.rd,m i≠none:=by
 unfold mC at h;split at h
 .split at h
  .rename_i hm;cases h;simp[hm]
  .cases h
 .cases h
theorem Oc{m:Mem}{t:TypeId}{x k:D}{e:cR}(h:sZ P m t x k=some e):(∀ i∈e.aL.map (·.1),m i≠none)/\∀ i∈e.rd,m i≠none:=by
 unfold sZ at h;split at h
 .split at h
  .rename_i hm;cases h;simp[hm]
  .cases h
 .cases h
theorem I6{op:Op}{ρ:Operand->D}{m:Mem}{nx:Nat}{e:cR}(h:aM P op ρ m nx=some e):
 (∀ i∈e.aL.map (·.1),m i≠none\/(nx<=i/\i<nx+e.new))/\(cp op=0->e.rd=[]/\e.aL=[])/\(cp op=1->e.aL=[])/\(cp op=3->e.rd=[]/\∀ i∈e.aL.map (·.1),nx<=i):=by
 cases op with
 |call c=>
  have h0:(∀ i∈e.aL.map (·.1),m i≠none\/(nx<=i/\i<nx+e.new))/\(c.callee=.builtin .len->e.aL=[])/\(c.callee=.builtin .min->e.rd=[]/\e.aL=[]):=by
   simp only[aM] at h;split at h
   .rename_i b hb;split at h
    .unfold dS at h;split at h
     .refine⟨?_,fun _=>?_,fun hx=>(by rw[hx] at hb;cases hb)⟩<;>
      .unfold kJ at h;split at h<;>first|(cases h;simp;done)|skip
       all_goals first|(cases h;done)|skip
       all_goals (split at h<;>first|(cases h;simp;done)|(cases h;done))
     .refine⟨?_,fun hx=>(by rw[hx] at hb;cases hb),fun hx=>(by rw[hx] at hb;cases hb)⟩;split at h
      .unfold py at h;simp only at h;split at h
       .cases h
       .rename_i hc;split at h
        .cases h;simp
        .split at h
         .rename_i hm;cases h;intro i hi;simp only[List.map_cons,List.map_nil,List.mem_cons,List.not_mem_nil,or_false] at hi;rcases hi with rfl|rfl
          .left;simp[hm]
          .right;simp
         .cases h
        .cases h
      .cases h
     .cases h;refine⟨oS,fun _=>rfl,fun _=>⟨rfl,rfl⟩⟩
     .refine⟨?_,fun hx=>(by rw[hx] at hb;cases hb),fun hx=>(by rw[hx] at hb;cases hb)⟩;split at h
      .rename_i hm;cases h;simp[hm]
      .cases h
     .exact⟨fun i hi=>.inl ((Oc h).1 i hi),fun hx=>(by rw[hx] at hb;cases hb),fun hx=>(by rw[hx] at hb;cases hb)⟩
     .cases h
    .cases h
   .cases h
  refine⟨h0.1,fun hk=>?_,fun hk=>?_,fun hk=>?_⟩
  .unfold cp at hk;split at hk<;>first|(cases hk;done)|skip
   all_goals first|(rename_i hx;injection hx with hx;subst hx;exact h0.2.2 rfl)|(simp_all;done)
  .unfold cp at hk;split at hk<;>first|(cases hk;done)|skip
   all_goals first|(rename_i hx;injection hx with hx;subst hx;exact h0.2.1 rfl)|(simp_all;done)
  .unfold cp at hk;split at hk<;>first|(cases hk;done)|skip
   all_goals simp_all
 |binOp op t x y _=>
  simp only[aM] at h;split at h
  .rename_i C he;simp only[aH] at h;subst h
   have h0:C.aL=[]/\(op=.eql\/op=.neq):=by
    unfold jZ at he;split at he
    .cases he;exact⟨rfl,.inl rfl⟩
    .split at he
     .cases he;exact⟨rfl,.inl rfl⟩
     .cases he
    .split at he
     .cases he;exact⟨rfl,.inr rfl⟩
     .cases he
    .cases he
   refine⟨by simp[h0.1],fun hk=>?_,fun _=>h0.1,fun hk=>?_⟩
   .rcases h0.2 with rfl|rfl<;>simp[cp] at hk
   .rcases h0.2 with rfl|rfl<;>simp[cp] at hk
  .cases hb:oO P op t (ρ x) (ρ y) with
   |none=>rw[hb] at h;cases h
   |some r=>rw[hb] at h;cases h;simp
 |lookup t x k ok=>
  have:=Ob h;refine⟨by simp[this.1],fun hk=>?_,fun _=>this.1,fun hk=>?_⟩<;>simp[cp] at hk
 |mapUpdate t x k v=>
  refine⟨fun i hi=>.inl ((DZ h).1 i hi),fun hk=>?_,fun hk=>?_,fun hk=>?_⟩<;>simp[cp] at hk
 |insert t x k v=>
  refine⟨fun i hi=>.inl ((DZ h).1 i hi),fun hk=>?_,fun hk=>?_,fun hk=>?_⟩<;>simp[cp] at hk
 |slice t x lo hi J=>
  have h0:e.aL=[]:=by
   simp only[aM] at h;unfold kz at h
   repeat' split at h
   all_goals first|(cases h;done)|(cases h;rfl)
  refine⟨by simp[h0],fun hk=>?_,fun _=>h0,fun hk=>?_⟩<;>simp[cp] at hk
 |_=>
  first
  |(simp only[aM] at h;cases h;simp[cp];done)
  |(simp only[aM] at h
    repeat' split at h
    all_goals first
     |(cases h;done)
     |(cases h;simp_all[cp];done)
     |(simp only[cN] at h;obtain⟨x,hx,rfl⟩:=h;simp[cp];done))
def fi(ops:Array Oper)(o:Oper)(st:St)(c:Bool):Prop:=
 ∀ (F:Nat->Prop) (β:av) (w:World) (a:Act) (env:Env),(∀ t∈o.looksAt ops,env t=st.env t)->ez F β w env a->Region.wanted o (yielded ops a.tmps)=c
theorem wU(h:o.guard=none):fi ops o st true:=fun _ _ _ _ _ _ _=>by simp[Region.wanted,h]
theorem Ip{j t:Nat}{b c:Bool}(h:o.guard=some (j,b))(ht:(ops[j]?).bind (·.dst)=some t)(hc:jC (st.env t) b=some c):fi ops o st c:=fun F β w a env he C=>by
 have:=he t (by simp[Oper.looksAt,h,ht]);rw[<- this] at hc;have h1:=aci C ht hc;simpa[Region.wanted,h] using h1
theorem uB{env:Env}(he:∀ t∈o.looksAt ops,env t=st.env t):∀ t,Operand.tmp t∈o.op.operands->env t=st.env t:=fun t ht=>
 he t (List.mem_append_left _ (List.mem_filterMap.2 ⟨.tmp t,by simpa using ht,rfl⟩))
theorem EH(O:fi ops o st false)(d:D)(hd:∀ F β w,R F β w d undef):aY.Ok P ops o st ⟨d,[],[],0⟩:=by
 intro F β w a m env N he C hm hr hn U r n QX K J;unfold gk;rw[O F β w a env he C,if_neg oS];exact⟨fun _ _=>trivial,J undef w β (hd F β w) hm (Step.refl β w) fun _ h _=>h⟩
theorem RV{c:Bool}{d:D}{rd:List Nat}(U:fi ops o st c)(h:c=true->aY.Ok P ops o st ⟨d,[],rd,0⟩):aY.Ok P ops o st ⟨.cu c d,[],rd,0⟩:=by
 intro F β w a m env N he C hm hr hn O r n QX K J;cases c with
 |true=>exact h rfl F β w a m env N he C hm hr hn O r n QX K fun v w' β' h1=>J v w' β' (.cu true d v (fun _=>h1) oS)
 |false=>
  have:=EH (P:=P) U (.cu false d) fun F β w=>.cu false d undef oS fun _=>rfl;exact this F β w a m env N he C hm oS hn O r n QX K J
theorem QZ{F:Nat->Prop}{m:Mem}{nx:Nat}{β:av}{w:World}{a:Act}{e:cR}(dE:∀ c,o.op≠ .defer c)(hw:Region.wanted o (yielded ops a.tmps)=true)(h:aK P F m nx β w e (execOp a.eval o))
 {r:Option Nat} {n:Nat} {QX:Exit->Act->World->Prop} {K:Act->World->Prop}
 (X:∀ v w' β',R F β' w' e.val v->ax P F (bT m e.aL) β' w'->Step β w β' w'->(∀ i,β i=none->(i<nx\/nx+e.new<=i)->β' i=none)->K (a.put o.dst v) w'):
 gk r n P ops QX o K a w:=by
 obtain⟨tV,v,w',β',h1,h2,C,J,O,U⟩:=h;unfold gk;rw[hw,if_pos rfl];refine⟨fun _ _=>trivial,?_⟩;rw[xB dE,h1];rcases h2 with rfl|⟨rfl,rfl⟩
 .exact X v w' β' C J O U
 .exact X undef w' β' C J O U
theorem Zg{op:Op}{ρ:Operand->D}{m:Mem}{nx:Nat}{e:cR}(h:aM P op ρ m nx=some e):∀ c,op≠ .defer c:=fun c hc=>by
 subst hc;simp[aM] at h
theorem Oo{op:Op}{ρ:Operand->D}{x:FuncId×List D}(h:cV ρ op=some x):∀ c,op≠ .defer c:=fun c hc=>by
 subst hc;simp[cV] at h
theorem ado{op:Op}{ρ:Operand->D}{m:Mem}{nx:Nat}{e:cR}(h:aM P op ρ m nx=some e):∀ i∈e.rd,m i≠none:=by
 cases op with
 |call c=>
  simp only[aM] at h;split at h
  .split at h
   .unfold dS at h;split at h
    .unfold kJ at h;split at h<;>first|(cases h;simp;done)|skip
     all_goals first|(cases h;done)|skip
     all_goals (split at h<;>first|(rename_i hm;cases h;simp[hm];done)|(cases h;done))
    .split at h
     .unfold py at h;simp only at h;split at h
      .cases h
      .rename_i hc;have h1:=Xq hc;split at h
       .cases h;exact h1
       .split at h
        .rename_i hm;cases h;intro i hi;simp only[List.mem_cons] at hi;rcases hi with rfl|hi
         .simp[hm]
         .exact h1 i hi
        .cases h
       .cases h
     .cases h
    .cases h;simp
    .split at h
     .rename_i hm;cases h;simp[hm]
     .cases h
    .exact(Oc h).2
    .cases h
   .cases h
  .cases h
 |binOp op t x y _=>
  simp only[aM] at h;split at h
  .rename_i C he;simp only[aH] at h;subst h;unfold jZ at he;split at he
   .cases he;simp
   .split at he
    .rename_i hm;cases he;simp[hm]
    .cases he
   .split at he
    .rename_i hm;cases he;simp[hm]
    .cases he
   .cases he
  .cases hb:oO P op t (ρ x) (ρ y) with
   |none=>rw[hb] at h;cases h
   |some r=>rw[hb] at h;cases h;simp
 |lookup t x k ok=>exact(Ob h).2.2
 |mapUpdate t x k v=>exact(DZ h).2
 |insert t x k v=>exact(DZ h).2
 |slice t x lo hi J=>
  simp only[aM] at h;unfold kz at h
  repeat' split at h
  all_goals first|(cases h;done)|(cases h;simp_all;done)
 |_=>
  first
  |(simp only[aM] at h;cases h;simp;done)
  |(simp only[aM] at h
    repeat' split at h
    all_goals first
     |(cases h;done)
     |(cases h;simp_all;done)
     |(simp only[cN] at h;obtain⟨x,hx,rfl⟩:=h;simp;done))
theorem aaF{op:Op}{ρ:Operand->D}{m m':Mem}{nx:Nat}{e:cR}(h:aM P op ρ m nx=some e)(hr:∀ i∈e.rd,m i≠none->m' i=m i):aM P op ρ m' nx=some e:=
 ab' h fun i hi=>hr i hi (ado h i hi)
theorem J8{e:cR}(U:fi ops o st true)(ha:asks st.env o.op)(h:aM P o.op (aZ st.env o.op) st.mem st.nx=some e)(hp:e.pre):aY.Ok P ops o st ⟨e.val,e.aL,e.rd,e.new⟩:=by
 intro F β w a m env N he J hm hr hn X r n QX K O;have C:=uB he;refine QZ (m:=m) (nx:=st.nx) (β:=β) (F:=F) (Zg h) (U F β w a env he J) (Pc hm (fun h1=>hn st.nx (a6 _) (by simp[h1])) J (by rw[wZ C];exact ha) ?_ hp) O;rw[ab9 (uR C)];exact aaF h hr
theorem zv{F:Nat->Prop}{β:av}{w:World}{a:Act}{env:Env}{f:FuncId}{args:List D}(O:Region.wanted o (yielded ops a.tmps)=true)(C:ez F β w env a)(ha:asks env o.op)
 (h:cV (aZ env o.op) o.op=some (f,args)) (he:jU P f=true) {r:Option Nat} {n:Nat} {QX:Exit->Act->World->Prop} {K:Act->World->Prop}
 (J:∀ vs,Rs F β w args vs->Calls P f vs w fun e w'=>∃ v,e=.returned v/\K (a.put o.dst v) w'):gk r n P ops QX o K a w:=by
 obtain⟨vs,h1,h2⟩:=OB (F:=F) (β:=β) (w:=w) C ha h he;unfold gk;rw[O,if_pos rfl];refine⟨fun _ _=>trivial,?_⟩;rw[xB (Oo h),h1];refine⟨oS,Em ((J vs h2).mono ?_)⟩;rintro e w' ⟨v,rfl,hk⟩;exact hk
theorem Jx{f:FuncId}{args:List D}{r:D}(hw:fi ops o st true)(ha:asks st.env o.op)(h:cV (aZ st.env o.op) o.op=some (f,args))(hc:aG P f args r):aY.Ok P ops o st ⟨r,[],[],0⟩:=by
 intro F β w a m env N he J hm hr hn hN r n QX K X;have C:=uB he;refine zv (args:=args) (hw F β w a env he J) J (by rw[wZ C];exact ha) (by rw[zm (uR C)];exact h) hc.1 fun vs hR=>?_;refine(O2 hm hc hR).mono fun e w' ⟨v,h1,h2,O,U⟩=>⟨v,h1,X v w' β h2 O U fun _ h _=>h⟩
theorem Q8{f:FuncId}{args C:List D}{r:D}{a7:List Nat}(hw:fi ops o st true)(ha:asks st.env o.op)(h:cV (aZ st.env o.op) o.op=some (f,args))(hs:jM P a7 st.mem args C)(hc:aG P f C r)(hr:r.gL=true):
 aY.Ok P ops o st ⟨r,[],a7,0⟩:=by
 intro F β w a m env N he O hm U hn hN r n QX K hK;have J:=uB he;refine zv (args:=args) (hw F β w a env he O) O (by rw[wZ J];exact ha) (by rw[zm (uR J)];exact h) hc.1 fun vs hR=>?_;refine(O3 hm hs U hc (X5 hr) hR).mono fun e w' ⟨v,h1,h2,X,h4⟩=>⟨v,h1,hK v w' β h2 X h4 fun _ h _=>h⟩
theorem RW{f:FuncId}{args es:List D}{n:Nat}{t:TypeId}(hw:fi ops o st true)(ha:asks st.env o.op)(h:cV (aZ st.env o.op) o.op=some (f,args))(hc:gC P f args es n t):
 aY.Ok P ops o st ⟨.rs st.nx 0 n,[(st.nx,some (.cells es t))],[],1⟩:=by
 intro F β w a m env N he J hm bP hn hN r n QX K hK;have C:=uB he;refine zv (args:=args) (hw F β w a env he J) J (by rw[wZ C];exact ha) (by rw[zm (uR C)];exact h) hc.1 fun vs hR=>?_;refine(aaj hm (hn st.nx (a6 _) oS) hc hR).mono fun e w' ⟨v,β',h1,h2,U,X,h5⟩=>⟨v,h1,hK v w' β' h2 U X fun i hi O=>?_⟩
 rw[h5 i (by simp only at O;omega)];exact hi
theorem adp{f:FuncId}{args:List D}{r:D}{aL:List (Nat×Option Row)}{a7:List Nat}(hw:fi ops o st true)(ha:asks st.env o.op)(h:cV (aZ st.env o.op) o.op=some (f,args))
 (hc:∀ C J,(∀ i∈a7,st.mem i≠none->C i=st.mem i)->dB P f args C J fun r' m' an=>r'=r/\m'=bT C aL/\an=J):aY.Ok P ops o st ⟨r,aL,a7,0⟩:=by
 intro F β w a m env N he U hm X hn hN ro n QX K hK;have O:=uB he;have hc:=hc m N X;refine zv (args:=args) (hw F β w a env he U) U (by rw[wZ O];exact ha) (by rw[zm (uR O)];exact h) hc.1 fun vs hR=>?_;refine(hc.2 F β w vs hm hN hR).mono fun e w' hp=>?_;obtain⟨v,d,m',an,β',h1,⟨e1,e2,e3⟩,h3,h4,h5,h6,_,h7⟩:=hp;subst e1 e2 e3;refine⟨v,h1,hK v w' β' h5 h3 h6 fun i hi _=>?_⟩;rcases Nat.lt_or_ge i an with h|h
 .exact h7 i h hi
 .exact h4 i h
theorem I7(b:List (Nat×Option Row)):∀ (a:List (Nat×Option Row)) (m:Mem),bT m (a++b)=bT (bT m a) b
 |[],_=>rfl
 |(i,r)::a,m=>I7 b a (up m i r)
theorem Pd{i:Nat}{r:Row}:∀ {us:List (Nat×Option Row)} {m:Mem},bT m us i=some r->(∃ x∈us,x.1=i/\x.2=some r)\/m i=some r
 |[],_,h=>.inr h
 |(j,s)::us,m,h=>by
  rcases Pd (us:=us) (m:=up m j s) h with⟨x,hx,e⟩|h
  .exact .inl ⟨x,by simp[hx],e⟩
  .by_cases hj:i=j
   .subst hj;rw[ai] at h;exact .inl ⟨(i,s),oS,rfl,h⟩
   .rw[aA _ _ hj] at h;exact .inr h
theorem OP{i:Nat}:∀ {us:List (Nat×Option Row)} {m m':Mem},m i=m' i->bT m us i=bT m' us i
 |[],_,_,h=>h
 |(j,s)::us,m,m',h=>OP (us:=us) (by simp only[up];split<;>simp[h])
theorem Qb{i:Nat}:∀ {us:List (Nat×Option Row)} {m:Mem},(∀ x∈us,x.1≠i)->bT m us i=m i
 |[],_,_=>rfl
 |(j,s)::us,m,h=>by
  rw[bT,Qb (us:=us) fun x hx=>h x (by simp[hx])];exact aA _ _ fun e=>h (j,s) oS e.symm
theorem I8{F F':Nat->Prop}{β β':av}{w:World}{r:Row}{p:Pl}(hr:EA r)(h:cx P F β w r p):cx P F' β' w r p:=by
 obtain⟨cs,e,rfl,hs⟩:=hr;cases h with
 |nil _=>exact .nil _
 |cells _ _ b o room sz c h1 h2 C J O=>
  refine .cells cs e b o room sz c h1 h2 C J fun k d hd=>?_;obtain⟨u,oZ,U,X⟩:=O k d hd;exact⟨u,oZ,JY (hs d (cX hd)) U,X⟩
theorem S7{F F':Nat->Prop}{β β':av}{w:World}{i j off k:Nat}{v:Value}(hb:β' j=β i)(h:R F β w (.rs i off k) v):R F' β' w (.rs j off k) v:=by
 cases h with
 |js _ _ _ _ h hv=>exact .js j off k v (hb.trans h) hv
 |gu _ a h=>exact .gu j a (hb.trans h)
 |ir _ _ a b o len room sz h=>exact .ir j off a b o len room sz (hb.trans h)
 |rs _ _ _ cap b o len room sz h h1 h2 C J=>exact .rs j off k cap b o len room sz (hb.trans h) h1 h2 C J
theorem aaG{f:FuncId}{args es:List D}{n:Nat}{t:TypeId}{aL:List (Nat×Option Row)}{a7:List Nat}(hw:fi ops o st true)(ha:asks st.env o.op)(h:cV (aZ st.env o.op) o.op=some (f,args))(hfr:QL st.mem a7 aL args)
 (kp:∀ d∈es,d.gL=true) (hc:∀ gT,dB P f args (only a7 st.mem) gT fun r' m' _=>∃ q,gT<=q/\r'=.rs q 0 n/\m' q=some (.cells es t)/\∀ i∈a7,m' i=bT st.mem aL i):
 aY.Ok P ops o st ⟨.rs st.nx 0 n,aL++[(st.nx,some (.cells es t))],a7,1⟩:=by
 intro F β w a m env N he hE hm bP hn hN ro k QX K hK;have gy:=uB he;obtain⟨f1,f2,f3⟩:=hfr
 have AQ:∀ i∈a7,m i=st.mem i:=fun i hi=>by
  obtain⟨r,hr,_⟩:=f1 i hi;exact bP i hi (by simp[hr])
 have M1:∀ i∈a7,∃ p,β i=some p:=fun i hi=>by
  obtain⟨r,hr,_⟩:=f1 i hi;obtain⟨p,hp,_⟩:=hm.row i r ((AQ i hi).trans hr);exact⟨p,hp⟩
 have dG:β st.nx=none:=hn st.nx (a6 _) (Nat.lt_succ_self _)
 have hnr:st.nx∉a7:=fun hx=>by
  obtain⟨p,hp⟩:=M1 _ hx;rw[dG] at hp;cases hp
 have VT:∀ i∈a7,i<N:=fun i hi=>by
  obtain⟨p,hp⟩:=M1 i hi;rcases Nat.lt_or_ge i N with g|g
  .exact g
  .rw[hN i g] at hp;cases hp
 have hc:=hc N
 have hon:only a7 st.mem=only a7 m:=by
  funext i;unfold only;split
  .rename_i hi;exact(AQ i hi).symm
  .rfl
 rw[hon] at hc;refine zv (args:=args) (hw F β w a env he hE) hE (by rw[wZ gy];exact ha) (by rw[zm (uR gy)];exact h) hc.1 fun vs hR=>?_
 let β2:av:=fun i=>if i∈a7 then β i else none
 let F2:Nat->Prop:=fun b=>F b\/∃ i p,i∉a7/\β i=some p/\p.bA=some b
 have b2:∀ {i p},β2 i=some p->i∈a7/\β i=some p:=fun {i p} hi=>by
  simp only[β2] at hi;split at hi
  .rename_i g;exact⟨g,hi⟩
  .cases hi
 have Hv:∀ {i},i∈a7->β2 i=β i:=fun {i} hi=>if_pos hi
 have pW:ax P F2 (only a7 m) β2 w:=by
  refine⟨fun i r hi=>?_,fun i j p q b hp hq e X=>hm.inj i j p q b (b2 hp).2 (b2 hq).2 e X,fun i p b hp e=>hm.lt i p b (b2 hp).2 e,fun i p b hp e C=>?_,hm.fb.next (fun b C=>?_) (fun _ h=>.inl h) fun _ _ _=>rfl⟩
  .unfold only at hi;split at hi
   .rename_i uf;obtain⟨p,hp,af⟩:=hm.row i r hi;obtain⟨r',eh,hs⟩:=f1 i uf;rw[AQ i uf,eh] at hi;cases hi;exact⟨p,(Hv uf).trans hp,I8 hs af⟩
   .cases hi
  .rcases C with C|⟨j,q,hj,hq,eq⟩
   .exact hm.nf i p b (b2 hp).2 e C
   .have:=hm.inj i j p q b (b2 hp).2 hq e eq;subst this;exact hj (b2 hp).1
  .rcases C with C|⟨j,q,_,hq,eq⟩
   .exact hm.fb.lt b C
   .exact hm.lt j q b hq eq
 have pb:Rs F2 β2 w args vs:=⟨hR.1,fun k d v hd hv=>by
  have h0:=hR.2 k d v hd hv;rcases f3 d (cX hd) with ht|⟨i,off,l,hi,rfl⟩
  .refine(ht F β w v h0).lift fun b hb=>⟨fun C=>?_,fun i p hp e=>?_⟩
   .rcases C with C|⟨j,q,_,hq,eq⟩
    .exact hb (.inl C)
    .exact hb (.inr fun gD=>gD j q hq eq)
   .exact hb (.inr fun gD=>gD i p (b2 hp).2 e)
  .exact S7 (Hv hi) h0⟩
 refine(hc.2 F2 β2 w vs pW (fun i hi=>?_) pb).mono ?_
 .simp only[β2];split
  .rename_i g;have:=VT i g;omega
  .rfl
 rintro e w' ⟨v,d,m',an,β',h1,⟨q,hq,rfl,hmq,Hl⟩,h3,h4,h5,U,h7,h8⟩;have VU:q∉a7:=fun hx=>by have:=VT q hx;omega
 have LN:∀ i p b,i∉a7->β i=some p->p.bA=some b->β2.free b:=fun i p b hi hp e j r hj X=>by
  have:=hm.inj i j p r b hp (b2 hj).2 e X;subst this;exact hi (b2 hj).1
 let β3:av:=fun i=>if i=st.nx then β' q else if i∈a7 then β' i else β i
 have M3:β3 st.nx=β' q:=if_pos rfl
 have Hw:∀ {i},i∈a7->β3 i=β' i:=fun {i} hi=>by
  simp only[β3];rw[if_neg (show ¬ i=st.nx from fun e=>hnr (e▸hi)),if_pos hi]
 have Hx:∀ {i},i≠st.nx->i∉a7->β3 i=β i:=fun {i} h1 h2=>by
  simp only[β3];rw[if_neg h1,if_neg h2]
 have Dp:∀ i p,β3 i=some p->(∃ j,β' j=some p/\((i=st.nx/\j=q)\/(i∈a7/\j=i)))\/(i≠st.nx/\i∉a7/\β i=some p):=fun i p hp=>by
  by_cases O:i=st.nx
  .subst O;exact .inl ⟨q,M3▸hp,.inl ⟨rfl,rfl⟩⟩
  .by_cases e2:i∈a7
   .exact .inl ⟨i,(Hw e2)▸hp,.inr ⟨e2,rfl⟩⟩
   .exact .inr ⟨O,e2,(Hx O e2)▸hp⟩
 have jd:Step β w β3 w':=by
  refine⟨U.size,fun b hb hf=>?_,fun i p hp=>?_,U.out,fun i r hp gS=>?_⟩
  rotate_left 2
  .have O:i≠st.nx:=fun e=>by rw[e,dG] at hp;cases hp
   by_cases e2:i∈a7
   .exact U.lp i r ((Hv e2).trans hp) ((Hw e2)▸gS)
   .exact mA (U.du r (hm.lt i _ r hp rfl) (LN i _ r e2 hp rfl)).1
  .have Dq:β2.free b:=fun i p hp e=>hf i p (b2 hp).2 e;obtain⟨g1,g2⟩:=U.du b hb Dq;refine⟨g1,fun i p hp e=>?_⟩;rcases Dp i p hp with⟨j,hj,_⟩|⟨_,_,hj⟩
   .exact g2 j p hj e
   .exact hf i p hj e
  .have O:i≠st.nx:=fun e=>by rw[e,dG] at hp;cases hp
   by_cases e2:i∈a7
   .rw[Hw e2];exact U.fG i p ((Hv e2).trans hp)
   .rw[Hx O e2];exact .inl hp
 have RY:∀ i p j r b,i∉a7->β i=some p->p.bA=some b->β' j=some r->r.bA=some b->False:=fun i p j r b hi hp e hj X=>
  (U.du b (hm.lt i p b hp e) (LN i p b hi hp e)).2 j r hj X
 refine⟨v,h1,hK v w' β3 (S7 M3 h5) ?_ jd fun i hi a8=>?_⟩
 .rw[I7];show ax P F (up (bT m aL) st.nx (some (.cells es t))) β3 w';refine⟨fun i r hi=>?_,fun i j p r b hp hr e X=>?_,fun i p b hp e=>?_,fun i p b hp e=>?_,hm.fb.next (fun b C=>Nat.lt_of_lt_of_le (hm.fb.lt b C) U.size) (fun _ h=>h) fun t _ C=>(U.du _ (hm.fb.lt _ C) fun i p hp e=>hm.nf i p _ (b2 hp).2 e C).1⟩
  .by_cases O:i=st.nx
   .subst O;rw[ai] at hi;cases hi;obtain⟨p,hp,af⟩:=h3.row q _ hmq;exact⟨p,M3.trans hp,I8 ⟨es,t,rfl,kp⟩ af⟩
   .rw[aA _ _ O] at hi;by_cases e2:i∈a7
    .rw[OP (AQ i e2), <- Hl i e2] at hi;obtain⟨p,hp,af⟩:=h3.row i r hi
     have hs:EA r:=by
      rw[Hl i e2] at hi;rcases Pd hi with⟨x,hx,_,hxr⟩|hi
      .exact(f2 x hx).2 r hxr
      .obtain⟨r',eh,hs⟩:=f1 i e2;rw[eh] at hi;cases hi;exact hs
     exact⟨p,(Hw e2).trans hp,I8 hs af⟩
    .rw[Qb (i:=i) fun x hx (e:x.1=i)=>e2 (e▸(f2 x hx).1)] at hi;obtain⟨p,hp,af⟩:=hm.row i r hi;exact⟨p,(Hx O e2).trans hp,af.step jd fun b e=>(U.du b (hm.lt i p b hp e) (LN i p b e2 hp e)).1⟩
  .rcases Dp i p hp with⟨i',J,ci⟩|⟨i1,i2,J⟩<;>rcases Dp j r hr with⟨j',gw,cj⟩|⟨j1,j2,gw⟩
   .have:=h3.inj i' j' p r b J gw e X;subst this;rcases ci with⟨rfl,rfl⟩|⟨ci,rfl⟩<;>rcases cj with⟨rfl,c⟩|⟨cj,c⟩
    .rfl
    .subst c;exact absurd cj VU
    .subst c;exact absurd ci VU
    .exact c
   .exact(RY j r i' p b j2 gw X J e).elim
   .exact(RY i p j' r b i2 J e gw X).elim
   .exact hm.inj i j p r b J gw e X
  .rcases Dp i p hp with⟨i',J,_⟩|⟨_,_,J⟩
   .exact h3.lt i' p b J e
   .exact Nat.lt_of_lt_of_le (hm.lt i p b J e) U.size
  .rcases Dp i p hp with⟨i',J,_⟩|⟨_,_,J⟩
   .exact fun C=>h3.nf i' p b J e (.inl C)
   .exact hm.nf i p b J e
 .have O:i≠st.nx:=by simp only at a8;omega
  have e2:i∉a7:=fun hx=>by
   obtain⟨p,hp⟩:=M1 i hx;rw[hi] at hp;cases hp
  rw[Hx O e2];exact hi
end
end Go.Abs
